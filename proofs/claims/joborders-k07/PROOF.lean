import PyProof.Rows.All
import Wide.All
import OpenK.AllK
import Wide.FinOn
import HandS.ForMost
import HandS.Exc
import HandS.TryOnly
import HandS.ExcOwn
import HandS.WordsExc
import HandS.Defaults
import HandS.Wide
import HandS.WideBits
import HandS.IsInst
import HandS.Style
import HandS.TupAny
import HandS.Zip
import HandS.Flow
import HandS.CallLocal
import HandS.Conv
import HandS.RaiseMore
import HandS.Text
import PyProof.ReprRoads
import HandS.Deep
import HandS.ExcInit
import HandS.Head1
import HandS.HeadEnd
import HandS.HeadHook1
import HandS.ExcIs
import HandS.ExcField
import KE.KExcSuper
import KE.KExcMake
import KE.KIsAll
import KE.KTryMore
import HandS.HeadHook2
import KE.KStateDown
import Lean
import HandS.Head0
import HandS.Head2
import PySem.Challenge.RW_joborders_k07_whole_waiting_obeys
set_option Elab.async false
set_option linter.all false
set_option maxRecDepth 100000
set_option maxHeartbeats 0
set_option exponentiation.threshold 10000
/-! VIa: pure data, the small language, its meaning. -/
namespace VI
open PySem PySem.Spec PyProof.Rows L2

/-- pure data: what a value tells, without addresses. scr: the list handed in to the law -/
inductive D where
  | non | bl (b : Bool) | int (i : Int) | str (x : Str) | ty (n : String) | fn (g : Nat)
  | lst (xs : List D) | tup (xs : List D) | scr (ns : List Int) | exn (k : Nat) (d : D)
  deriving Inhabited

abbrev Env := List (Option D)
/-- how an expression ends -/
inductive Res (α : Type) where
  | ok (a : α) (env : Env) | exc (k : Nat) (d : D) | bad
/-- how a block ends -/
inductive SRes where
  | next (env : Env) | ret (d : D) (env : Env) | brk (env : Env) | cnt (env : Env) | exc (k : Nat) (d : D) | bad
/-- how a call ends: the value, what the lists of its own hold -/
inductive COut where
  | ret (d : D) (outs : List D) | exc (k : Nat) (d : D) | bad
abbrev CT := Nat → List D → COut

def Res.bind {α β : Type} (r : Res α) (f : α → Env → Res β) : Res β := match r with
  | .ok a env => f a env
  | .exc k d => .exc k d
  | .bad => .bad
def Res.sbind {α : Type} (r : Res α) (f : α → Env → SRes) : SRes := match r with
  | .ok a env => f a env
  | .exc k d => .exc k d
  | .bad => .bad
def lift {α : Type} (o : Option α) (env : Env) : Res α := match o with
  | some a => .ok a env
  | none => .bad
@[simp] theorem Res.bind_ok {α β : Type} (a : α) (env : Env) (f : α → Env → Res β) : (Res.ok a env).bind f = f a env := rfl
@[simp] theorem Res.bind_exc {α β : Type} (k : Nat) (d : D) (f : α → Env → Res β) : (Res.exc k d : Res α).bind f = .exc k d := rfl
@[simp] theorem Res.bind_bad {α β : Type} (f : α → Env → Res β) : (Res.bad : Res α).bind f = .bad := rfl
@[simp] theorem Res.sbind_ok {α : Type} (a : α) (env : Env) (f : α → Env → SRes) : (Res.ok a env).sbind f = f a env := rfl
@[simp] theorem Res.sbind_exc {α : Type} (k : Nat) (d : D) (f : α → Env → SRes) : (Res.exc k d : Res α).sbind f = .exc k d := rfl
@[simp] theorem Res.sbind_bad {α : Type} (f : α → Env → SRes) : (Res.bad : Res α).sbind f = .bad := rfl
@[simp] theorem lift_some {α : Type} (a : α) (env : Env) : lift (some a) env = .ok a env := rfl
@[simp] theorem lift_none {α : Type} (env : Env) : lift (none : Option α) env = .bad := rfl

/-! ### the language -/
inductive BI where
  | abs | int | max | min | len | sum | isi | list | tuple | bool | sorted | all | repr
  deriving DecidableEq
inductive SM where
  | join | split | endswith | startswith
  deriving DecidableEq
/-- a target: a name, a tuple of names -/
inductive IT where
  | nm (i : Nat) | tp (is : List Nat)
  deriving DecidableEq
mutual
inductive IE where
  | var (i : Nat) | own (i : Nat) | int (z : Int) | bl (b : Bool) | non | str (s : Str) | ty (n : String) | fn (g : Nat)
  | scal (e : IE) | bin (op : Operator) (a b : IE) | neg (a : IE) | not (a : IE) | and (a b : IE) | or (a b : IE) | ife (c a b : IE)
  | cmp (op : CmpOp) (a b : IE) | chn (o1 o2 : CmpOp) (a b c : IE)
  | lst (es : IEs) | tup (es : IEs) | idx (a b : IE) | idxo (i : Nat) (b : IE) | sl (a : IE) (lo hi : IO)
  | call (g : Nat) (es : IEs) | callk (g : Nat) (perm : List Nat) (es ks : IEs) | callv (i : Nat) (es : IEs)
  | bi (b : BI) (es : IEs) | bits (a : IE) | rev (a : IE) | idxof (a b : IE) | lenset (a : IE) | sm (m : SM) (a b : IE) | lrg (a : IE) | lrg2 (a b : IE) | pop (i : Nat) (es : IEs)
  | lc (vs : List Nat) (tg : IT) (it : II) (c : IO) (e : IE)
  | xval (a : IE) | isx (a : IE) (j : Nat)
inductive IEs where
  | nil | cons (e : IE) (es : IEs)
inductive IO where
  | none | some (e : IE)
/-- what is walked -/
inductive II where
  | val (e : IE) | rng (e : IE) | rng2 (a b : IE) | enum (e : IE) | zip (a b : IE)
end
mutual
/-- within a block that makes a list of lists of its own, in one slot: a new list is put behind; a datum is put behind the list at a place; a choice; a walk -/
inductive DS where
  | appN (e : IE) | appC (c e : IE) | ifs (c : IE) (a b : DSs) | for_ (t : IT) (it : II) (a : DSs)
inductive DSs where
  | nil | cons (s : DS) (ss : DSs)
end
mutual
inductive IS where
  | set (t : IT) (fr : Bool) (e : IE) | par (i j : Nat) (a b : IE) | par3 (i j l : Nat) (a b c : IE) | app (i : Nat) (e : IE) | seti (i : Nat) (e1 e2 : IE) | expr (e : IE) | ret (e : IE)
  | ifs (c : IE) (a b : ISs) | whl (c : IE) (a : ISs) | for_ (t : IT) (it : II) (a : ISs) | pass | brk | cnt | frz (i : Nat) | raise (k : Nat) (e : IE) | never | retOwn (i : Nat) | parf (i j : Nat) (fi fj : Bool) (a b : IE) | mark (i j : Nat) (e : IE) | deep (i : Nat) (b : DSs)
inductive ISs where
  | nil | cons (s : IS) (ss : ISs)
end
instance : Inhabited IE := ⟨.non⟩
instance : Inhabited IS := ⟨.pass⟩
instance : Inhabited ISs := ⟨.nil⟩
instance : Inhabited DSs := ⟨.nil⟩

/-! ### data -/
mutual
def toPy : D → Option PyData
  | .non => some .none
  | .bl b => some (.bool b)
  | .int i => some (.int i)
  | .str x => some (.str x)
  | .lst xs => (toPys xs).map .list
  | .tup xs => (toPys xs).map .tuple
  | .scr ns => some (.list (ns.map .int))
  | .ty _ => none
  | .fn _ => none
  | .exn _ _ => none
def toPys : List D → Option (List PyData)
  | [] => some []
  | x :: xs => match toPy x, toPys xs with
    | some d, some ds => some (d :: ds)
    | _, _ => none
end
def isL : D → Bool
  | .lst _ => true
  | _ => false
/-- a datum without objects -/
def scalar : D → Bool
  | .non => true
  | .bl _ => true
  | .int _ => true
  | .str _ => true
  | .ty _ => true
  | .fn _ => true
  | _ => false
def truD : D → Option Bool
  | .non => some false
  | .bl b => some b
  | .int i => some (i != 0)
  | .lst xs => some (!xs.isEmpty)
  | .tup xs => some (!xs.isEmpty)
  | .str x => if x.length ≤ sizeLine then some ((x.length : Int) != 0) else none
  | _ => none
def mulOk (i j : Int) : Bool := decide (i.natAbs.log2 + j.natAbs.log2 < 1000000)
def addD : D → D → Option D
  | .int i, .int j => some (.int (i + j))
  | .str x, .str y => if x.length + y.length ≤ sizeLine then some (.str (x ++ y)) else none
  | .lst x, .lst y => if x.length + y.length ≤ sizeLine then some (.lst (x ++ y)) else none
  | .tup x, .tup y => if x.length + y.length ≤ sizeLine then some (.tup (x ++ y)) else none
  | _, _ => none
def subD : D → D → Option D
  | .int i, .int j => some (.int (i - j))
  | _, _ => none
def mulD : D → D → Option D
  | .int i, .int j => if mulOk i j then some (.int (i * j)) else none
  | .lst x, .int k => if -(2 ^ 63) ≤ k ∧ k < 2 ^ 63 ∧ x.length * k.toNat ≤ sizeLine then some (.lst (List.replicate k.toNat x).flatten) else none
  | _, _ => none
def fdivD : D → D → Option D
  | .int i, .int j => if j ≠ 0 ∧ j.natAbs.log2 < 9000 then some (.int (i.fdiv j)) else none
  | _, _ => none
def modD : D → D → Option D
  | .int i, .int j => if j ≠ 0 then some (.int (i.fmod j)) else none
  | _, _ => none
def powD : D → D → Option D
  | .int i, .int j => if 0 ≤ j ∧ ((i.natAbs.log2 + 1 : Nat) : Int) * j ≤ 134217728 then some (.int (i ^ j.toNat)) else none
  | _, _ => none
def binD (op : Operator) (x y : D) : Option D := match op with
  | .Add => addD x y
  | .Sub => subD x y
  | .Mult => mulD x y
  | .FloorDiv => fdivD x y
  | .Mod => modD x y
  | .Pow => powD x y
  | _ => none
def negD : D → Option D
  | .int i => some (.int (-i))
  | _ => none
def notD : D → Option D
  | .bl b => some (.bl (!b))
  | _ => none
def eqD (x y : D) : Option Bool := match toPy x, toPy y with
  | some d, some e => if SeqAt.shaped d && SeqAt.shaped e then some (PyData.eqv d e) else none
  | _, _ => none
/-- x is y, y one of None, True, False -/
def isD : D → D → Option Bool
  | .non, .non => some true
  | .bl _, .non => some false
  | .int _, .non => some false
  | .str _, .non => some false
  | .lst _, .non => some false
  | .tup _, .non => some false
  | .fn _, .non => some false
  | .exn _ _, .non => some false
  | .bl a, .bl b => some (a == b)
  | .non, .bl _ => some false
  | .int _, .bl _ => some false
  | .str _, .bl _ => some false
  | .lst _, .bl _ => some false
  | .tup _, .bl _ => some false
  | .fn _, .bl _ => some false
  | .exn _ _, .bl _ => some false
  | _, _ => none
def intsOf : List D → Option (List Int)
  | [] => some []
  | .int i :: r => (intsOf r).map (i :: ·)
  | _ => none
def ltD : D → D → Option Bool
  | .int i, .int j => some (decide (i < j))
  | .str x, .str y => some (decide (x.cps.toList < y.cps.toList))
  | .tup x, .tup y => match intsOf x, intsOf y with
    | some a, some b => some (HT.lexLt a b)
    | _, _ => none
  | _, _ => none
def leD : D → D → Option Bool
  | .int i, .int j => some (decide (i ≤ j))
  | _, _ => none
/-- y in x -/
def inD (y : D) (x : D) : Option Bool := match toPy y, toPy x with
  | some d, some (.list es) => if SeqAt.shaped d && SeqAt.shaped (.list es) then some (es.any fun z => PyData.eqv z d) else none
  | _, _ => none
def cmpD (op : CmpOp) (x y : D) : Option Bool := match op with
  | .Eq => eqD x y
  | .NotEq => (eqD x y).map (!·)
  | .Lt => ltD x y
  | .LtE => leD x y
  | .Gt => match x, y with
    | .int i, .int j => some (decide (j < i))
    | _, _ => none
  | .GtE => match x, y with
    | .int i, .int j => some (decide (j ≤ i))
    | _, _ => none
  | .Is => isD x y
  | .IsNot => (isD x y).map (!·)
  | .In => inD x y
  | .NotIn => (inD x y).map (!·)
def idxD : D → D → Option D
  | .lst xs, .int i => atI xs i
  | .tup xs, .int i => atI xs i
  | .scr ns, .int i => (atI ns i).map .int
  | .str z, .int i => if z.length ≤ sizeLine then (atI z.cps.toList i).map fun c => .str ⟨#[c]⟩ else none
  | _, _ => none
def cutL {α : Type} (xs : List α) (lo hi : Option Int) : List α := (xs.drop (HT.sIx xs.length 0 lo)).take (HT.sIx xs.length xs.length hi - HT.sIx xs.length 0 lo)
def slD (x : D) (lo hi : Option Int) : Option D := match x with
  | .lst xs => some (.lst (cutL xs lo hi))
  | .scr ns => if ns.length ≤ sizeLine then some (.lst ((cutL ns lo hi).map .int)) else none
  | .tup xs => some (.tup (cutL xs lo hi))
  | .str z => if z.length ≤ sizeLine then some (.str (cutS z lo hi)) else none
  | _ => none
def lenD : D → Option D
  | .lst xs => some (.int xs.length)
  | .tup xs => some (.int xs.length)
  | .scr ns => some (.int ns.length)
  | .str z => if z.length ≤ sizeLine then some (.int z.length) else none
  | _ => none
/-- isinstance(x, n) -/
def isiD (x : D) (n : String) : Option Bool := match x with
  | .non => kitB "NoneType" n
  | .bl _ => kitB "bool" n
  | .int _ => kitB "int" n
  | .str _ => kitB "str" n
  | .lst _ => kitB "list" n
  | .scr _ => kitB "list" n
  | .tup _ => kitB "tuple" n
  | _ => none
def tysOf : List D → Option (List String)
  | [] => some []
  | .ty n :: r => (tysOf r).map (n :: ·)
  | _ => none
def anyIsi (x : D) : List String → Option Bool
  | [] => some false
  | n :: r => match isiD x n with
    | some true => some true
    | some false => anyIsi x r
    | none => none
/-- isinstance(x, ts), ts a tuple of classes -/
def isisD (x : D) (ts : List D) : Option Bool := match tysOf ts with
  | some ns => if ns = [] then none else anyIsi x ns
  | none => none
def strsOf : List D → Option (List Str)
  | [] => some []
  | .str x :: r => (strsOf r).map (x :: ·)
  | _ => none
/-- a text's methods of one argument -/
def smD (m : SM) (s : Str) (y : D) : Option D := match m with
  | .endswith => match y with
    | .str b => some (.bl (Txt.endswith s b))
    | _ => none
  | .startswith => match y with
    | .str b => some (.bl (Txt.startswith s b))
    | _ => none
  | .split => match y with
    | .str b => if (b.length == 0) = false ∧ s.length + 2 ≤ sizeLine ∧ (Txt.split s b).length ≤ sizeLine then some (.lst ((Txt.split s b).map .str)) else none
    | _ => none
  | .join => match y with
    | .lst ds => (strsOf ds).bind fun ys => if (ys.map (·.length)).sum + ys.length * s.length ≤ 16777216 then some (.str (Txt.join s ys)) else none
    | _ => none
/-- len(set(x)), ints -/
def lensetD (x : D) : Option D := match x with
  | .lst ds => if ds.length ≤ 4000 then (intsOf ds).map fun ns => .int ((PyProof.Rows.firstMet (fun i => ns.getD i 0) ns.length).length : Nat) else none
  | _ => none
/-- x.index(y) -/
def idxofD (x y : D) : Option D := match toPy x, toPy y with
  | some (.list ds), some d => if SeqAt.shaped (.list ds) && SeqAt.shaped d then (ds.findIdx? fun z => PyData.eqv z d).map fun j => .int (j : Nat) else none
  | _, _ => none
def blsOf : List D → Option (List Bool)
  | [] => some []
  | .bl b :: r => (blsOf r).map (b :: ·)
  | _ => none
def sortI (ns : List Int) : List Int := ns.mergeSort fun a b => decide (a ≤ b)
def biD (b : BI) (xs : List D) : Option D := match b with
  | .abs => match xs with
    | [.int i] => some (.int (if i < 0 then -i else i))
    | _ => none
  | .int => match xs with
    | [.int i] => some (.int i)
    | [.bl k] => some (.int (if k then 1 else 0))
    | _ => none
  | .bool => match xs with
    | [.int i] => some (.bl (i != 0))
    | [.bl k] => some (.bl k)
    | _ => none
  | .max => match xs with
    | [.int i, .int j] => some (.int (if j > i then j else i))
    | [.lst ds] => (intsOf ds).bind fun ns => ns.max?.map .int
    | _ => none
  | .min => match xs with
    | [.int i, .int j] => some (.int (if j < i then j else i))
    | [.lst ds] => (intsOf ds).bind fun ns => ns.min?.map .int
    | _ => none
  | .len => match xs with
    | [x] => lenD x
    | _ => none
  | .sum => match xs with
    | [.lst ds] => (intsOf ds).map fun ns => .int ns.sum
    | [.scr ns] => some (.int ns.sum)
    | _ => none
  | .isi => match xs with
    | [x, .ty n] => (isiD x n).map .bl
    | [x, .tup ts] => (isisD x ts).map .bl
    | _ => none
  | .list => match xs with
    | [.lst ds] => some (.lst ds)
    | [.tup ds] => some (.lst ds)
    | _ => none
  | .tuple => match xs with
    | [.lst ds] => some (.tup ds)
    | [.tup ds] => some (.tup ds)
    | _ => none
  | .sorted => match xs with
    | [.lst ds] => if ds.length < 64 then (intsOf ds).map fun ns => .lst ((sortI ns).map .int) else none
    | _ => none
  | .repr => match xs with
    | [x] => (toPy x).bind fun d => if d.showable && !d.hasDict && decide (d.depth ≤ 64) && decide (d.shown.length ≤ sizeLine) then some (.str d.shown) else none
    | _ => none
  | .all => match xs with
    | [.lst ds] => (blsOf ds).map fun bs => .bl (bs.all id)
    | _ => none

/-! ### its meaning -/
def getE (env : Env) (i : Nat) : Option D := (env[i]?).bind id
def IEs.owns : IEs → List (Option Nat)
  | .nil => []
  | .cons (.own i) es => some i :: es.owns
  | .cons _ es => none :: es.owns
/-- the arguments as they stand at the call -/
def argsAt : List (Option Nat) → List D → Env → Option (List D)
  | [], [], _ => some []
  | some i :: os, _ :: ds, env => match getE env i, argsAt os ds env with
    | some d, some r => some (d :: r)
    | _, _ => none
  | none :: os, d :: ds, env => (argsAt os ds env).map (d :: ·)
  | _, _, _ => none
/-- the owned lists behind the call -/
def outsAt : List (Option Nat) → List D → Env → Option Env
  | [], [], env => some env
  | none :: os, outs, env => outsAt os outs env
  | some i :: os, d :: outs, env => outsAt os outs (env.set i (some d))
  | _, _, _ => none
def callD (C : CT) (g : Nat) (os : List (Option Nat)) (ds : List D) (env : Env) : Res D := match argsAt os ds env with
  | none => .bad
  | some args => match C g args with
    | .ret d outs => (match outsAt os outs env with
      | some env' => .ok d env'
      | none => .bad)
    | .exc k d => .exc k d
    | .bad => .bad
def permL {α : Type} (perm : List Nat) (xs : List α) : Option (List α) := perm.mapM fun i => xs[i]?
def bindT (t : IT) (d : D) (env : Env) : Option Env := match t with
  | .nm i => if i < env.length then some (env.set i (some d)) else none
  | .tp is => match d with
    | .tup ds => if ds.length = is.length ∧ is.all (· < env.length) then some ((is.zip ds).foldl (fun e p => e.set p.1 (some p.2)) env) else none
    | _ => none
def wipeE (env : Env) : List Nat → Env
  | [] => env
  | v :: vs => (wipeE env vs).set v none
/-- the slots vs of env' as in env -/
def backE (env env' : Env) : List Nat → Env
  | [] => env'
  | v :: vs => (backE env env' vs).set v (getE env v)
def itemsD : D → Option (List D)
  | .lst xs => some xs
  | .tup xs => some xs
  | .scr ns => some (ns.map .int)
  | .str x => some (x.cps.toList.map fun c => .str ⟨#[c]⟩)
  | _ => none
def rangeD (lo : Int) : Nat → List D
  | 0 => []
  | n + 1 => .int lo :: rangeD (lo + 1) n
def rngOk (i : Int) : Bool := decide (-(2 ^ 62) ≤ i) && decide (i < 2 ^ 62)
def enumD (i : Nat) : List D → List D
  | [] => []
  | x :: xs => .tup [.int i, x] :: enumD (i + 1) xs
def zipD : List D → List D → List D
  | x :: xs, y :: ys => .tup [x, y] :: zipD xs ys
  | _, _ => []
/-- the items of a comprehension, one behind another -/
def lcD (tg : IT) (vs : List Nat) (c : Env → Res Bool) (f : Env → Res D) : List D → Nat → Env → Res (List D)
  | [], _, env => .ok [] env
  | x :: xs, n, env => match bindT tg x (wipeE env vs) with
    | none => .bad
    | some env1 => (c env1).bind fun b env2 => match b with
      | false => lcD tg vs c f xs n env2
      | true => (f env2).bind fun d env3 => if n < sizeLine then (lcD tg vs c f xs (n + 1) env3).bind fun r env4 => .ok (d :: r) env4 else .bad
def exck (r : Res D) : Res D := match r with
  | .exc _ _ => .bad
  | r => r
mutual
def ev (C : CT) : IE → Env → Res D
  | .var i, env => lift (getE env i) env
  | .own i, env => lift (getE env i) env
  | .int z, env => .ok (.int z) env
  | .bl b, env => .ok (.bl b) env
  | .non, env => .ok .non env
  | .str s, env => .ok (.str s) env
  | .ty n, env => .ok (.ty n) env
  | .fn g, env => .ok (.fn g) env
  | .scal e, env => (exck (ev C e env)).bind fun d _ => if scalar d then .ok d env else .bad
  | .bin op a b, env => (ev C a env).bind fun x env1 => (ev C b env1).bind fun y env2 => lift (binD op x y) env2
  | .neg a, env => (ev C a env).bind fun x env1 => lift (negD x) env1
  | .not a, env => (ev C a env).bind fun x env1 => lift ((truD x).map fun b => .bl (!b)) env1
  | .and a b, env => (ev C a env).bind fun x env1 => match truD x with
    | some true => ev C b env1
    | some false => .ok x env1
    | none => .bad
  | .or a b, env => (ev C a env).bind fun x env1 => match truD x with
    | some true => .ok x env1
    | some false => ev C b env1
    | none => .bad
  | .ife c a b, env => (ev C c env).bind fun x env1 => match truD x with
    | some true => ev C a env1
    | some false => ev C b env1
    | none => .bad
  | .cmp op a b, env => (ev C a env).bind fun x env1 => (ev C b env1).bind fun y env2 => lift ((cmpD op x y).map .bl) env2
  | .chn o1 o2 a b c, env => (ev C a env).bind fun x env1 => (ev C b env1).bind fun y env2 => match cmpD o1 x y with
    | some true => (ev C c env2).bind fun z env3 => lift ((cmpD o2 y z).map .bl) env3
    | some false => .ok (.bl false) env2
    | none => .bad
  | .lst es, env => (evs C es env).bind fun ds env1 => if ds.length ≤ sizeLine then .ok (.lst ds) env1 else .bad
  | .tup es, env => (evs C es env).bind fun ds env1 => if ds.length ≤ sizeLine then .ok (.tup ds) env1 else .bad
  | .idx a b, env => (ev C a env).bind fun x env1 => (ev C b env1).bind fun y env2 => lift (idxD x y) env2
  | .idxo i b, env => match getE env i with
    | none => .bad
    | some _ => (ev C b env).bind fun y env1 => lift ((getE env1 i).bind fun x => idxD x y) env1
  | .sl a lo hi, env => (ev C a env).bind fun x env1 => (evo C lo env1).bind fun l env2 => (evo C hi env2).bind fun h env3 => lift (slD x l h) env3
  | .call g es, env => (evs C es env).bind fun ds env1 => callD C g es.owns ds env1
  | .callk g perm es ks, env => (evs C es env).bind fun ds env1 => (evs C ks env1).bind fun zs env2 => match permL perm (ds ++ zs), permL perm (es.owns ++ ks.owns) with
    | some ds', some os => callD C g os ds' env2
    | _, _ => .bad
  | .callv i es, env => match getE env i with
    | some (.fn g) => (evs C es env).bind fun ds env1 => callD C g es.owns ds env1
    | _ => .bad
  | .bi b es, env => (evs C es env).bind fun ds env1 => lift (biD b ds) env1
  | .bits a, env => (ev C a env).bind fun x env1 => match x with
    | .int i => .ok (.int (Builtin.Int.intBits i : Nat)) env1
    | _ => .bad
  | .idxof a b, env => (ev C a env).bind fun x env1 => match x with
    | .lst xs => (ev C b env1).bind fun y env2 => lift (idxofD (.lst xs) y) env2
    | _ => .bad
  | .sm m a b, env => (ev C a env).bind fun x env1 => match x with
    | .str s => (ev C b env1).bind fun y env2 => lift (smD m s y) env2
    | _ => .bad
  | .lenset a, env => (ev C a env).bind fun x env1 => lift (lensetD x) env1
  | .rev a, env => (ev C a env).bind fun x env1 => match x with
    | .lst xs => .ok (.lst xs.reverse) env1
    | _ => .bad
  | .lrg a, env => (ev C a env).bind fun x env1 => match x with
    | .int n => if rngOk n && decide (n.toNat ≤ 16777216) then .ok (.lst (rangeD 0 n.toNat)) env1 else .bad
    | _ => .bad
  | .lrg2 a b, env => (ev C a env).bind fun x env1 => (ev C b env1).bind fun y env2 => match x, y with
    | .int i, .int j => if rngOk i && rngOk j && decide ((j - i).toNat ≤ 16777216) then .ok (.lst (rangeD i (j - i).toNat)) env2 else .bad
    | _, _ => .bad
  | .pop i es, env => match getE env i with
    | none => .bad
    | some _ => (evs C es env).bind fun ds env1 => match getE env1 i, ds with
      | some (.lst xs), [] => (match xs[xs.length - 1]? with
        | some d => .ok d (env1.set i (some (.lst xs.dropLast)))
        | none => .bad)
      | some (.lst xs), [.int k] => if -(2 ^ 63) ≤ k ∧ k < 2 ^ 63 then (match seqIndex? k xs.length with
        | some j => (match xs[j]? with
          | some d => .ok d (env1.set i (some (.lst (xs.eraseIdx j))))
          | none => .bad)
        | none => .bad) else .bad
      | _, _ => .bad
  | .xval a, env => (ev C a env).bind fun x env1 => match x with
    | .exn _ d => .ok d env1
    | _ => .bad
  | .isx a j, env => (ev C a env).bind fun x env1 => match x with
    | .exn k _ => .ok (.bl (k == j)) env1
    | _ => .bad
  | .lc vs tg it c e, env => (evi C it env).bind fun ds env1 => match lcD tg vs (evc C c) (ev C e) ds 0 env1 with
    | .ok r env2 => .ok (.lst r) (backE env1 env2 vs)
    | _ => .bad
def evs (C : CT) : IEs → Env → Res (List D)
  | .nil, env => .ok [] env
  | .cons e es, env => (ev C e env).bind fun x env1 => (evs C es env1).bind fun xs env2 => .ok (x :: xs) env2
/-- a part of a slice -/
def evo (C : CT) : IO → Env → Res (Option Int)
  | .none, env => .ok none env
  | .some e, env => (ev C e env).bind fun x env1 => match x with
    | .int i => .ok (some i) env1
    | _ => .bad
/-- a comprehension's test -/
def evc (C : CT) : IO → Env → Res Bool
  | .none, env => .ok true env
  | .some e, env => (ev C e env).bind fun x env1 => lift (truD x) env1
def evi (C : CT) : II → Env → Res (List D)
  | .val e, env => (ev C e env).bind fun x env1 => lift (itemsD x) env1
  | .rng e, env => (ev C e env).bind fun x env1 => match x with
    | .int n => if rngOk n then .ok (rangeD 0 n.toNat) env1 else .bad
    | _ => .bad
  | .rng2 a b, env => (ev C a env).bind fun x env1 => (ev C b env1).bind fun y env2 => match x, y with
    | .int i, .int j => if rngOk i && rngOk j then .ok (rangeD i (j - i).toNat) env2 else .bad
    | _, _ => .bad
  | .enum e, env => (ev C e env).bind fun x env1 => match x with
    | .lst xs => .ok (enumD 0 xs) env1
    | _ => .bad
  | .zip a b, env => (ev C a env).bind fun x env1 => (ev C b env1).bind fun y env2 => match x, y with
    | .lst xs, .lst ys => .ok (zipD xs ys) env2
    | _, _ => .bad
end
/-- an expression as a test -/
def evb (C : CT) (e : IE) (env : Env) : Res Bool := (ev C e env).bind fun x env1 => lift (truD x) env1

/-- a while loop of at most n turns -/
def whN (c : Env → Res Bool) (b : Env → SRes) : Nat → Env → Option SRes
  | 0, _ => none
  | n + 1, env => match c env with
    | .ok false env1 => some (.next env1)
    | .ok true env1 => (match b env1 with
      | .next env2 => whN c b n env2
      | .cnt env2 => whN c b n env2
      | .brk env2 => some (.next env2)
      | .ret d env2 => some (.ret d env2)
      | .exc k d => some (.exc k d)
      | .bad => some .bad)
    | .exc k d => some (.exc k d)
    | .bad => some .bad
open Classical in
noncomputable def whD (c : Env → Res Bool) (b : Env → SRes) (env : Env) : SRes :=
  if h : ∃ n r, whN c b n env = some r then (Classical.choose_spec h).choose else .bad
theorem whN_det {c : Env → Res Bool} {b : Env → SRes} : ∀ {n m : Nat} {env : Env} {r q : SRes}, whN c b n env = some r → whN c b m env = some q → r = q
  | 0, _, _, _, _, h, _ => by simp [whN] at h
  | _, 0, _, _, _, _, h => by simp [whN] at h
  | n + 1, m + 1, env, r, q, h1, h2 => by
    unfold whN at h1 h2
    split at h1 <;> rename_i hc <;> rw [hc] at h2 <;> simp only at h1 h2
    · exact Option.some.inj (h1.symm.trans h2)
    · split at h1 <;> rename_i hb <;> rw [hb] at h2 <;> simp only at h1 h2
      · exact whN_det h1 h2
      · exact whN_det h1 h2
      all_goals exact Option.some.inj (h1.symm.trans h2)
    · exact Option.some.inj (h1.symm.trans h2)
    · exact Option.some.inj (h1.symm.trans h2)
theorem whD_of {c : Env → Res Bool} {b : Env → SRes} {n : Nat} {env : Env} {r : SRes} (h : whN c b n env = some r) : whD c b env = r := by
  have e : ∃ n r, whN c b n env = some r := ⟨n, r, h⟩
  unfold whD
  rw [dif_pos e]
  exact whN_det (Classical.choose_spec e).choose_spec h
/-- one turn of a while loop -/
theorem whD_eq (c : Env → Res Bool) (b : Env → SRes) (env : Env) : whD c b env = (match c env with
    | .ok false env1 => .next env1
    | .ok true env1 => (match b env1 with
      | .next env2 => whD c b env2
      | .cnt env2 => whD c b env2
      | .brk env2 => .next env2
      | .ret d env2 => .ret d env2
      | .exc k d => .exc k d
      | .bad => .bad)
    | .exc k d => .exc k d
    | .bad => .bad) := by
  have step : ∀ (env2 : Env), (∀ n, whN c b (n + 1) env = whN c b n env2) → whD c b env = whD c b env2 := fun env2 h => by
    by_cases e : ∃ n r, whN c b n env2 = some r
    · obtain ⟨n, r, e⟩ := e
      rw [whD_of e, whD_of ((h n).trans e)]
    · have e' : ¬ ∃ n r, whN c b n env = some r := fun ⟨n, r, q⟩ => by
        cases n with
        | zero => simp [whN] at q
        | succ n => exact e ⟨n, r, (h n).symm.trans q⟩
      unfold whD
      rw [dif_neg e, dif_neg e']
  cases hc : c env with
  | ok t env1 =>
    cases t with
    | false => exact whD_of (n := 1) (by unfold whN; rw [hc])
    | true =>
      simp only
      cases hb : b env1 with
      | next env2 => exact step env2 fun n => by rw [whN]; simp only [hc, hb]
      | cnt env2 => exact step env2 fun n => by rw [whN]; simp only [hc, hb]
      | brk env2 => exact whD_of (n := 1) (by unfold whN; simp only [hc, hb])
      | ret d env2 => exact whD_of (n := 1) (by unfold whN; simp only [hc, hb])
      | exc k d => exact whD_of (n := 1) (by unfold whN; simp only [hc, hb])
      | bad => exact whD_of (n := 1) (by unfold whN; simp only [hc, hb])
  | exc k d => exact whD_of (n := 1) (by unfold whN; rw [hc])
  | bad => exact whD_of (n := 1) (by unfold whN; rw [hc])
theorem whD_bad {c : Env → Res Bool} {b : Env → SRes} {env : Env} (h : ¬ ∃ n r, whN c b n env = some r) : whD c b env = .bad := by
  unfold whD
  rw [dif_neg h]

def forD (t : IT) (b : Env → SRes) : List D → Env → SRes
  | [], env => .next env
  | x :: xs, env => match bindT t x env with
    | none => .bad
    | some env1 => (match b env1 with
      | .next env2 => forD t b xs env2
      | .cnt env2 => forD t b xs env2
      | .brk env2 => .next env2
      | r => r)
/-- how a block over a list of lists ends -/
inductive DR where
  | next (cs : List (List D)) (env : Env) | exc (k : Nat) (d : D) | bad
def lsts (cs : List (List D)) : D := .lst (cs.map .lst)
def forDd (t : IT) (b : List (List D) → Env → DR) : List D → List (List D) → Env → DR
  | [], cs, env => .next cs env
  | x :: xs, cs, env => match bindT t x env with
    | none => .bad
    | some env1 => (match b cs env1 with
      | .next cs2 env2 => forDd t b xs cs2 env2
      | r => r)
mutual
def exD (C : CT) (i : Nat) : DS → List (List D) → Env → DR
  | .appN e, cs, env => match ev C e env with
    | .ok d env1 => (match d with
      | .lst ds => if cs.length < sizeLine then .next (cs ++ [ds]) env1 else .bad
      | _ => .bad)
    | .exc k d => .exc k d
    | .bad => .bad
  | .appC c e, cs, env => match ev C c env with
    | .ok z env1 => (match z with
      | .int z => (match ixN cs.length z with
        | some j => (match cs[j]? with
          | some ds => (match ev C e env1 with
            | .ok d env2 => if ds.length < sizeLine then .next (cs.set j (ds ++ [d])) env2 else .bad
            | .exc k d => .exc k d
            | .bad => .bad)
          | none => .bad)
        | none => .bad)
      | _ => .bad)
    | .exc k d => .exc k d
    | .bad => .bad
  | .ifs c a b, cs, env => match evb C c (env.set i (some (lsts cs))) with
    | .ok t _ => (match t with
      | true => exDs C i a cs env
      | false => exDs C i b cs env)
    | _ => .bad
  | .for_ t it a, cs, env => match evi C it env with
    | .ok ds env1 => forDd t (exDs C i a) ds cs env1
    | .exc k d => .exc k d
    | .bad => .bad
def exDs (C : CT) (i : Nat) : DSs → List (List D) → Env → DR
  | .nil, cs, env => .next cs env
  | .cons s ss, cs, env => match exD C i s cs env with
    | .next cs1 env1 => exDs C i ss cs1 env1
    | r => r
end
mutual
noncomputable def ex (C : CT) : IS → Env → SRes
  | .set t fr e, env => (ev C e env).sbind fun d env1 => if fr && !isL d then .bad else match bindT t d env1 with
    | some env2 => .next env2
    | none => .bad
  | .par i j a b, env => (ev C a env).sbind fun x env1 => (ev C b env1).sbind fun y env2 => if i < env2.length ∧ j < env2.length then .next ((env2.set i (some x)).set j (some y)) else .bad
  | .parf i j fi fj a b, env => (ev C a env).sbind fun x env1 => (ev C b env1).sbind fun y env2 => if (fi && !isL x) || (fj && !isL y) then .bad else if i < env2.length ∧ j < env2.length then .next ((env2.set i (some x)).set j (some y)) else .bad
  | .par3 i j l a b c, env => (ev C a env).sbind fun x env1 => (ev C b env1).sbind fun y env2 => (ev C c env2).sbind fun z env3 =>
      if i < env3.length ∧ j < env3.length ∧ l < env3.length then .next (((env3.set i (some x)).set j (some y)).set l (some z)) else .bad
  | .app i e, env => match getE env i with
    | none => .bad
    | some _ => (ev C e env).sbind fun d env1 => match getE env1 i with
      | some (.lst xs) => if xs.length < sizeLine then .next (env1.set i (some (.lst (xs ++ [d])))) else .bad
      | _ => .bad
  | .seti i e1 e2, env => (ev C e2 env).sbind fun d env1 => match getE env1 i with
    | none => .bad
    | some _ => (ev C e1 env1).sbind fun k env2 => match getE env2 i, k with
      | some (.lst xs), .int z => (match ixN xs.length z with
        | some j => .next (env2.set i (some (.lst (xs.set j d))))
        | none => .bad)
      | _, _ => .bad
  | .expr e, env => (ev C e env).sbind fun _ env1 => .next env1
  | .ret e, env => (ev C e env).sbind fun d env1 => .ret d env1
  | .ifs c a b, env => (evb C c env).sbind fun t env1 => match t with
    | true => exs C a env1
    | false => exs C b env1
  | .whl c a, env => whD (evb C c) (exs C a) env
  | .for_ t it a, env => (evi C it env).sbind fun ds env1 => forD t (exs C a) ds env1
  | .pass, env => .next env
  | .brk, env => .brk env
  | .cnt, env => .cnt env
  | .frz _, env => .next env
  | .raise k e, env => (ev C e env).sbind fun d _ => .exc k d
  | .never, _ => .bad
  | .mark i j e, env => match ev C e env with
    | .ok _ env1 => .next env1
    | .exc k d => if i < env.length ∧ j < env.length then .next ((env.set j (some (.exn k d))).set i none) else .bad
    | .bad => .bad
  | .retOwn i, env => match getE env i with
    | some d => .ret d env
    | none => .bad
  | .deep i b, env => if i < env.length then (match exDs C i b [] (env.set i none) with
    | .next cs env1 => .next (env1.set i (some (lsts cs)))
    | .exc k d => .exc k d
    | .bad => .bad) else .bad
noncomputable def exs (C : CT) : ISs → Env → SRes
  | .nil, env => .next env
  | .cons s ss, env => match ex C s env with
    | .next env1 => exs C ss env1
    | r => r
end
/-- a def: its name, how many parameters, how many names, which parameters are lists that it may change, whether what it gives is a list of the caller's own, its body -/
structure Fn where
  name : Str
  np : Nat
  nn : Nat
  msk : List Bool
  fr : Bool
  body : ISs
def outsOf (msk : List Bool) (env : Env) : Option (List D) := match msk, env with
  | [], _ => some []
  | true :: m, some d :: e => (outsOf m e).map (d :: ·)
  | true :: _, _ => none
  | false :: m, _ :: e => outsOf m e
  | false :: _, [] => none
/-- a call of a def over what its own calls do -/
noncomputable def runF (C : CT) (f : Fn) (args : List D) : COut :=
  if args.length = f.np then
    match exs C f.body (args.map some ++ List.replicate (f.nn - f.np) none) with
    | .ret d env => if f.fr && !isL d then .bad else (match outsOf f.msk env with
      | some outs => .ret d outs
      | none => .bad)
    | .next env => if f.fr then .bad else (match outsOf f.msk env with
      | some outs => .ret .non outs
      | none => .bad)
    | .exc k d => .exc k d
    | _ => .bad
  else .bad
/-- what the defs of a table do, k calls deep -/
noncomputable def CF (T : List Fn) : Nat → CT
  | 0 => fun _ _ => .bad
  | k + 1 => fun g args => match T[g]? with
    | some f => runF (CF T k) f args
    | none => .bad
end VI
/-! VIb: how data lie in the heap; operators, built-ins on values. -/
namespace VI
open PySem PySem.Spec PyProof.Rows L2

/-- the fixed part: the written objects, where each def stands, which defs change no argument -/
structure Wd where
  K : PySem.W.Frag
  fa : Nat → Addr
  pl : Nat → Bool
  xc : Nat → Addr := fun _ => 0
  xo : Nat → Prop := fun _ => False
/-- at a: a caught exception of the class at C, its dict at dx -/
def exV (a C dx : Addr) : HO := .ext fun h => ∃ (oe : Obj) (vs : Array Value), h.get? a = some oe ∧ Zc (.ref C) (some dx) oe ∧ oe.data = .fields vs
abbrev Sub (S H : Hp) : Prop := ∀ b o, S b = some o → H b = some o
theorem Sub.refl (S : Hp) : Sub S S := fun _ _ h => h
theorem Sub.trans {S T U : Hp} (a : Sub S T) (b : Sub T U) : Sub S U := fun x o h => b x o (a x o h)
theorem Sub.upd {S : Hp} {p : Addr} {o : HO} (h : S p = none) : Sub S (upd S p o) := fun b u e => by
  rw [upd_ne (ne_of_none e h)]; exact e
theorem Sub.upd2 {S H : Hp} {p : Addr} {o : HO} (h : Sub S H) : Sub (L2.upd S p o) (L2.upd H p o) := fun b u e => by
  by_cases z : b = p
  · subst z; rw [upd_same] at e ⊢; exact e
  · rw [upd_ne z] at e ⊢; exact h b u e
theorem Sub.none {S H : Hp} {p : Addr} (h : Sub S H) (n : H p = none) : S p = none := by
  cases e : S p with
  | none => rfl
  | some o => rw [h p o e] at n; cases n
theorem Sub.seq {K : PySem.W.Frag} {S H : Hp} {a : Addr} {xs : List V} (e : Sub S H) (h : SqL K S a xs) : SqL K H a xs := by
  rcases h with (h | ⟨o, h⟩) | h
  · exact .inl (.inl (e _ _ h))
  · exact .inl (.inr ⟨o, e _ _ h⟩)
  · exact .inr h

section
variable (W : Wd) (S : Hp)
mutual
def Rep : D → V → Prop
  | .non, v => v = .non
  | .bl b, v => v = .bl b
  | .int i, v => v = .int i
  | .str x, v => v = .str x
  | .ty n, v => v = .ty n
  | .fn g, v => v = .ref (W.fa g) ∧ W.pl g = true
  | .lst ds, v => ∃ a vs, v = .ref a ∧ S a = some (.lst vs) ∧ Reps ds vs
  | .tup ds, v => ∃ a vs, v = .ref a ∧ S a = some (.tup vs) ∧ Reps ds vs
  | .scr ns, v => ∃ a, v = .ref a ∧ SqL W.K S a (ns.map V.int)
  | .exn k d, v => ∃ a dx w, v = .ref a ∧ S a = some (exV a (W.xc k) dx) ∧ S dx = some (.xd [("value", w)]) ∧ W.xo k ∧ Rep d w
def Reps : List D → List V → Prop
  | [], vs => vs = []
  | d :: ds, vs => ∃ v r, vs = v :: r ∧ Rep d v ∧ Reps ds r
end
end
section
variable {W : Wd} {S S' H : Hp}
mutual
theorem Rep.mono (h : Sub S S') : ∀ {d : D} {v : V}, Rep W S d v → Rep W S' d v
  | .non, _, r => by unfold Rep at r ⊢; exact r
  | .bl _, _, r => by unfold Rep at r ⊢; exact r
  | .int _, _, r => by unfold Rep at r ⊢; exact r
  | .str _, _, r => by unfold Rep at r ⊢; exact r
  | .ty _, _, r => by unfold Rep at r ⊢; exact r
  | .fn _, _, r => by unfold Rep at r ⊢; exact r
  | .lst ds, _, r => by
    unfold Rep at r ⊢
    obtain ⟨a, vs, e, x, q⟩ := r
    exact ⟨a, vs, e, h _ _ x, Reps.mono h q⟩
  | .tup ds, _, r => by
    unfold Rep at r ⊢
    obtain ⟨a, vs, e, x, q⟩ := r
    exact ⟨a, vs, e, h _ _ x, Reps.mono h q⟩
  | .scr ns, _, r => by
    unfold Rep at r ⊢
    obtain ⟨a, e, x⟩ := r
    exact ⟨a, e, h.seq x⟩
  | .exn k d, _, r => by
    unfold Rep at r ⊢
    obtain ⟨a, dx, w, e, x, y, o, z⟩ := r
    exact ⟨a, dx, w, e, h _ _ x, h _ _ y, o, Rep.mono h z⟩
theorem Reps.mono (h : Sub S S') : ∀ {ds : List D} {vs : List V}, Reps W S ds vs → Reps W S' ds vs
  | [], _, r => by unfold Reps at r ⊢; exact r
  | d :: ds, _, r => by
    unfold Reps at r ⊢
    obtain ⟨v, q, e, x, y⟩ := r
    exact ⟨v, q, e, Rep.mono h x, Reps.mono h y⟩
end
theorem rep_non {v : V} : Rep W S .non v ↔ v = .non := by unfold Rep; exact Iff.rfl
theorem rep_bl {b : Bool} {v : V} : Rep W S (.bl b) v ↔ v = .bl b := by unfold Rep; exact Iff.rfl
theorem rep_int {i : Int} {v : V} : Rep W S (.int i) v ↔ v = .int i := by unfold Rep; exact Iff.rfl
theorem rep_str {i : Str} {v : V} : Rep W S (.str i) v ↔ v = .str i := by unfold Rep; exact Iff.rfl
theorem rep_ty {i : String} {v : V} : Rep W S (.ty i) v ↔ v = .ty i := by unfold Rep; exact Iff.rfl
theorem rep_fn {g : Nat} {v : V} : Rep W S (.fn g) v ↔ v = .ref (W.fa g) ∧ W.pl g = true := by unfold Rep; exact Iff.rfl
theorem rep_lst {ds : List D} {v : V} : Rep W S (.lst ds) v ↔ ∃ a vs, v = .ref a ∧ S a = some (.lst vs) ∧ Reps W S ds vs := by unfold Rep; exact Iff.rfl
theorem rep_tup {ds : List D} {v : V} : Rep W S (.tup ds) v ↔ ∃ a vs, v = .ref a ∧ S a = some (.tup vs) ∧ Reps W S ds vs := by unfold Rep; exact Iff.rfl
theorem rep_scr {ns : List Int} {v : V} : Rep W S (.scr ns) v ↔ ∃ a, v = .ref a ∧ SqL W.K S a (ns.map V.int) := by unfold Rep; exact Iff.rfl
theorem rep_exn {k : Nat} {d : D} {v : V} : Rep W S (.exn k d) v ↔ ∃ a dx w, v = .ref a ∧ S a = some (exV a (W.xc k) dx) ∧ S dx = some (.xd [("value", w)]) ∧ W.xo k ∧ Rep W S d w := by
  constructor
  · intro h; unfold Rep at h; exact h
  · intro h; unfold Rep; exact h
theorem reps_nil {vs : List V} : Reps W S [] vs ↔ vs = [] := by unfold Reps; exact Iff.rfl
theorem reps_cons {d : D} {ds : List D} {vs : List V} : Reps W S (d :: ds) vs ↔ ∃ v r, vs = v :: r ∧ Rep W S d v ∧ Reps W S ds r := by
  constructor
  · intro h; unfold Reps at h; exact h
  · intro h; unfold Reps; exact h
theorem Reps.length : ∀ {ds : List D} {vs : List V}, Reps W S ds vs → ds.length = vs.length
  | [], _, r => by rw [reps_nil] at r; subst r; rfl
  | d :: ds, _, r => by
    rw [reps_cons] at r
    obtain ⟨v, q, rfl, _, y⟩ := r
    simp [y.length]
theorem Reps.append : ∀ {ds es : List D} {vs ws : List V}, Reps W S ds vs → Reps W S es ws → Reps W S (ds ++ es) (vs ++ ws)
  | [], _, _, _, r, q => by rw [reps_nil] at r; subst r; exact q
  | d :: ds, _, _, _, r, q => by
    rw [reps_cons] at r
    obtain ⟨v, z, rfl, x, y⟩ := r
    exact reps_cons.mpr ⟨v, _, rfl, x, y.append q⟩
theorem Reps.get : ∀ {ds : List D} {vs : List V} {i : Nat} {d : D}, Reps W S ds vs → ds[i]? = some d → ∃ v, vs[i]? = some v ∧ Rep W S d v
  | [], _, _, _, _, e => by simp at e
  | x :: xs, _, 0, d, r, e => by
    rw [reps_cons] at r
    obtain ⟨v, z, rfl, x, y⟩ := r
    simp at e; subst e
    exact ⟨v, by simp, x⟩
  | x :: xs, _, i + 1, d, r, e => by
    rw [reps_cons] at r
    obtain ⟨v, z, rfl, x, y⟩ := r
    obtain ⟨w, h1, h2⟩ := y.get (i := i) (by simpa using e)
    exact ⟨w, by simpa using h1, h2⟩
theorem Reps.get2 {ds : List D} {vs : List V} {i : Nat} {v : V} (r : Reps W S ds vs) (e : vs[i]? = some v) : ∃ d, ds[i]? = some d ∧ Rep W S d v := by
  have h : i < ds.length := by
    rw [r.length]
    exact (List.getElem?_eq_some_iff.mp e).1
  obtain ⟨w, h1, h2⟩ := r.get (i := i) (List.getElem?_eq_getElem h)
  rw [e] at h1; cases h1
  exact ⟨_, List.getElem?_eq_getElem h, h2⟩
theorem Reps.set : ∀ {ds : List D} {vs : List V} {d : D} {v : V} (i : Nat), Reps W S ds vs → Rep W S d v → Reps W S (ds.set i d) (vs.set i v)
  | [], _, _, _, _, r, _ => by rw [reps_nil] at r; subst r; exact reps_nil.mpr rfl
  | x :: xs, _, d, v, 0, r, q => by
    rw [reps_cons] at r
    obtain ⟨w, z, rfl, x, y⟩ := r
    exact reps_cons.mpr ⟨v, z, rfl, q, y⟩
  | x :: xs, _, d, v, i + 1, r, q => by
    rw [reps_cons] at r
    obtain ⟨w, z, rfl, x, y⟩ := r
    exact reps_cons.mpr ⟨w, _, rfl, x, y.set i q⟩
theorem Reps.drop : ∀ {ds : List D} {vs : List V} (n : Nat), Reps W S ds vs → Reps W S (ds.drop n) (vs.drop n)
  | _, _, 0, r => r
  | [], _, n + 1, r => by rw [reps_nil] at r; subst r; exact reps_nil.mpr rfl
  | x :: xs, _, n + 1, r => by
    rw [reps_cons] at r
    obtain ⟨w, z, rfl, x, y⟩ := r
    exact y.drop n
theorem Reps.take : ∀ {ds : List D} {vs : List V} (n : Nat), Reps W S ds vs → Reps W S (ds.take n) (vs.take n)
  | _, _, 0, r => reps_nil.mpr rfl
  | [], _, n + 1, r => by rw [reps_nil] at r; subst r; exact reps_nil.mpr rfl
  | x :: xs, _, n + 1, r => by
    rw [reps_cons] at r
    obtain ⟨w, z, rfl, x, y⟩ := r
    exact reps_cons.mpr ⟨w, _, rfl, x, y.take n⟩
theorem Reps.erase : ∀ {ds : List D} {vs : List V} (n : Nat), Reps W S ds vs → Reps W S (ds.eraseIdx n) (vs.eraseIdx n)
  | [], _, n, r => by rw [reps_nil] at r; subst r; exact reps_nil.mpr rfl
  | x :: xs, _, 0, r => by
    rw [reps_cons] at r
    obtain ⟨w, z, rfl, x, y⟩ := r
    exact y
  | x :: xs, _, n + 1, r => by
    rw [reps_cons] at r
    obtain ⟨w, z, rfl, x, y⟩ := r
    exact reps_cons.mpr ⟨w, _, rfl, x, y.erase n⟩
theorem Reps.dropLast {ds : List D} {vs : List V} (r : Reps W S ds vs) : Reps W S ds.dropLast vs.dropLast := by
  rw [List.dropLast_eq_take, List.dropLast_eq_take, r.length]
  exact r.take _
theorem Reps.rep {ds : List D} {vs : List V} (r : Reps W S ds vs) : ∀ n : Nat, Reps W S (List.replicate n ds).flatten (List.replicate n vs).flatten
  | 0 => reps_nil.mpr rfl
  | n + 1 => by
    rw [List.replicate_succ, List.replicate_succ, List.flatten_cons, List.flatten_cons]
    exact r.append (r.rep n)
theorem Reps.ints : ∀ {ds : List D} {vs : List V} {ns : List Int}, Reps W S ds vs → intsOf ds = some ns → vs = ns.map V.int
  | [], _, ns, r, e => by
    rw [reps_nil] at r
    unfold intsOf at e
    cases e
    exact r
  | d :: ds, vs, ns, r, e => by
    rw [reps_cons] at r
    obtain ⟨v, q, rfl, x, y⟩ := r
    cases d with
    | int i =>
      unfold intsOf at e
      cases h : intsOf ds with
      | none => rw [h] at e; cases e
      | some ms =>
        rw [h] at e; cases e
        rw [rep_int] at x
        subst x
        rw [y.ints h]
        rfl
    | _ => unfold intsOf at e; cases e
theorem reps_ints (W : Wd) (S : Hp) : ∀ ns : List Int, Reps W S (ns.map D.int) (ns.map V.int)
  | [] => reps_nil.mpr rfl
  | n :: ns => reps_cons.mpr ⟨_, _, rfl, rep_int.mpr rfl, reps_ints W S ns⟩
mutual
theorem Rep.dp : ∀ {d : D} {v : V} {p : PyData}, Rep W S d v → toPy d = some p → Dp W.K S v p
  | .non, _, _, r, e => by rw [rep_non] at r; unfold toPy at e; subst r; cases e; exact .non
  | .bl b, _, _, r, e => by rw [rep_bl] at r; unfold toPy at e; subst r; cases e; exact .bl b
  | .int b, _, _, r, e => by rw [rep_int] at r; unfold toPy at e; subst r; cases e; exact .int b
  | .str b, _, _, r, e => by rw [rep_str] at r; unfold toPy at e; subst r; cases e; exact .str b
  | .ty _, _, _, _, e => by unfold toPy at e; cases e
  | .fn _, _, _, _, e => by unfold toPy at e; cases e
  | .exn _ _, _, _, _, e => by unfold toPy at e; cases e
  | .lst ds, _, _, r, e => by
    rw [rep_lst] at r
    obtain ⟨a, vs, rfl, x, q⟩ := r
    unfold toPy at e
    cases h : toPys ds with
    | none => rw [h] at e; cases e
    | some ps => rw [h] at e; cases e; exact .lst (SqL.of x) (Reps.dp q h)
  | .tup ds, _, _, r, e => by
    rw [rep_tup] at r
    obtain ⟨a, vs, rfl, x, q⟩ := r
    unfold toPy at e
    cases h : toPys ds with
    | none => rw [h] at e; cases e
    | some ps => rw [h] at e; cases e; exact .tup (SqT.of x) (Reps.dp q h)
  | .scr ns, _, _, r, e => by
    rw [rep_scr] at r
    obtain ⟨a, rfl, x⟩ := r
    unfold toPy at e
    cases e
    refine .lst x ?_
    clear x
    induction ns with
    | nil => exact .nil
    | cons n ns ih => exact .cons (.int n) ih
theorem Reps.dp : ∀ {ds : List D} {vs : List V} {ps : List PyData}, Reps W S ds vs → toPys ds = some ps → DpAll W.K S vs ps
  | [], _, _, r, e => by rw [reps_nil] at r; unfold toPys at e; subst r; cases e; exact .nil
  | d :: ds, _, _, r, e => by
    rw [reps_cons] at r
    obtain ⟨v, q, rfl, x, y⟩ := r
    unfold toPys at e
    cases h1 : toPy d with
    | none => rw [h1] at e; cases e
    | some p =>
      cases h2 : toPys ds with
      | none => rw [h1, h2] at e; cases e
      | some ps => rw [h1, h2] at e; cases e; exact .cons (Rep.dp x h1) (Reps.dp y h2)
end
end

/-- what an operation gives: a datum that stood, or a new object at p -/
inductive Mk (W : Wd) (S H : Hp) : D → V → Hp → Prop where
  | old {d : D} {v : V} (n : ∀ ds, d ≠ .lst ds) (r : Rep W S d v) : Mk W S H d v H
  | lst {ds : List D} {vs : List V} (p : Addr) (h : H p = none) (r : Reps W S ds vs) (z : vs.length ≤ sizeLine) : Mk W S H (.lst ds) (.ref p) (upd H p (.lst vs))
  | tup {ds : List D} {vs : List V} (p : Addr) (h : H p = none) (r : Reps W S ds vs) (z : vs.length ≤ sizeLine) : Mk W S H (.tup ds) (.ref p) (upd H p (.tup vs))

section
variable {X : Cx} {W : Wd} {S H : Hp}
theorem log2_lt {i j : Int} (h : mulOk i j = true) : CMulW i j := by
  unfold mulOk at h
  unfold CMulW
  exact of_decide_eq_true h
theorem bits_log (i : Int) : Builtin.Int.intBits i ≤ i.natAbs.log2 + 1 := by
  unfold Builtin.Int.intBits
  split <;> omega
/-- a op b of values -/
theorem bin_ok {op : Operator} {x y d : D} {a b : V} (sub : Sub S H) (hx : Rep W S x a) (hy : Rep W S y b) (h : binD op x y = some d) {Q : VK} (hQ : ∀ v H', Mk W S H d v H' → Q v H') :
    ∃ r, OpR X (binaryOp op) r ∧ r a b H Q := by
  unfold binD at h
  cases op with
  | Add =>
    simp only at h
    unfold addD at h
    split at h
    · cases h
      rw [rep_int] at hx hy
      subst hx hy
      exact ⟨_, op_add, _, _, rfl, rfl, hQ _ _ (.old (fun _ z => by cases z) (rep_int.mpr rfl))⟩
    · rw [rep_str] at hx hy
      subst hx hy
      split at h
      · rename_i hz
        cases h
        exact ⟨_, op_add_str, _, _, rfl, rfl, hz, hQ _ _ (.old (fun _ z => by cases z) (rep_str.mpr rfl))⟩
      · cases h
    · split at h
      · rename_i hz
        cases h
        rw [rep_lst] at hx hy
        obtain ⟨p, vs, rfl, e1, r1⟩ := hx
        obtain ⟨q, ws, rfl, e2, r2⟩ := hy
        have z : vs.length + ws.length ≤ sizeLine := by rw [← r1.length, ← r2.length]; exact hz
        exact ⟨_, op_cat, _, _, _, _, rfl, rfl, sub _ _ e1, sub _ _ e2, z, fun t ht => hQ _ _ (.lst t ht (r1.append r2) (by rw [List.length_append]; exact z))⟩
      · cases h
    · split at h
      · rename_i hz
        cases h
        have hx' := hx
        have hy' := hy
        rw [rep_tup] at hx hy
        obtain ⟨p, vs, rfl, e1, r1⟩ := hx
        obtain ⟨q, ws, rfl, e2, r2⟩ := hy
        have z : vs.length + ws.length ≤ sizeLine := by rw [← r1.length, ← r2.length]; exact hz
        refine ⟨_, op_catA, _, _, _, _, rfl, rfl, SqT.of (sub _ _ e1), SqT.of (sub _ _ e2), z, fun e => ?_, fun _ e => ?_, fun _ _ t ht => hQ _ _ (.tup t ht (r1.append r2) (by rw [List.length_append]; exact z))⟩
        · subst e
          have q := r1.length
          rw [List.length_nil, List.length_eq_zero_iff] at q
          subst q
          exact hQ _ _ (.old (fun _ z => by cases z) hy')
        · subst e
          have q := r2.length
          rw [List.length_nil, List.length_eq_zero_iff] at q
          subst q
          refine hQ _ _ (.old (fun _ z => by cases z) ?_)
          rw [List.append_nil]
          exact hx'
      · cases h
    · cases h
  | Sub =>
    simp only at h
    unfold subD at h
    split at h
    · cases h
      rw [rep_int] at hx hy
      subst hx hy
      exact ⟨_, op_sub, _, _, rfl, rfl, hQ _ _ (.old (fun _ z => by cases z) (rep_int.mpr rfl))⟩
    · cases h
  | Mult =>
    simp only at h
    unfold mulD at h
    split at h
    · split at h
      · rename_i hz
        cases h
        rw [rep_int] at hx hy
        subst hx hy
        exact ⟨_, op_mulW, _, _, rfl, rfl, log2_lt hz, hQ _ _ (.old (fun _ z => by cases z) (rep_int.mpr rfl))⟩
      · cases h
    · split at h
      · rename_i hz
        cases h
        rw [rep_lst] at hx
        rw [rep_int] at hy
        obtain ⟨p, vs, rfl, e1, r1⟩ := hx
        subst hy
        refine ⟨_, op_rep, _, _, _, rfl, rfl, sub _ _ e1, hz.1, hz.2.1, by rw [← r1.length]; exact hz.2.2, fun t ht => hQ _ _ (.lst t ht (r1.rep _) ?_)⟩
        rw [List.length_flatten, List.map_replicate, List.sum_replicate_nat, Nat.mul_comm, ← r1.length]
        exact hz.2.2
      · cases h
    · cases h
  | FloorDiv =>
    simp only at h
    unfold fdivD at h
    split at h
    · split at h
      · rename_i hz
        cases h
        rw [rep_int] at hx hy
        subst hx hy
        have ho : OpR X (binaryOp .FloorDiv) (rI (fun _ j => j ≠ 0 ∧ j.natAbs.log2 < 9000) fun i j => .int (i.fdiv j)) := opI fun i j _ _ _ _ _ hc q => floordiv_int hc.1 q (.inl (PyProof.noPylong_of_log2 hc.2))
        exact ⟨_, ho, _, _, rfl, rfl, hz, hQ _ _ (.old (fun _ z => by cases z) (rep_int.mpr rfl))⟩
      · cases h
    · cases h
  | Mod =>
    simp only at h
    unfold modD at h
    split at h
    · split at h
      · rename_i hz
        cases h
        rw [rep_int] at hx hy
        subst hx hy
        exact ⟨_, op_modN, _, _, rfl, rfl, hz, hQ _ _ (.old (fun _ z => by cases z) (rep_int.mpr rfl))⟩
      · cases h
    · cases h
  | Pow =>
    simp only at h
    unfold powD at h
    split at h
    · split at h
      · rename_i hz
        cases h
        rw [rep_int] at hx hy
        subst hx hy
        have ho : OpR X (binaryOp .Pow) (rI (fun i j => 0 ≤ j ∧ (Builtin.Int.intBits i : Int) * j ≤ 2 ^ 27) fun i j => .int (i ^ j.toNat)) := opI fun i j _ _ _ _ _ hc q => pow_int hc.1 hc.2 q
        refine ⟨_, ho, _, _, rfl, rfl, ⟨hz.1, ?_⟩, hQ _ _ (.old (fun _ z => by cases z) (rep_int.mpr rfl))⟩
        rename_i i j
        have e : (2 : Int) ^ 27 = 134217728 := by decide
        rw [e]
        refine Int.le_trans ?_ hz.2
        exact Int.mul_le_mul_of_nonneg_right (by have := bits_log i; omega) hz.1
      · cases h
    · cases h
  | MatMult => cases h
  | Div => cases h
  | LShift => cases h
  | RShift => cases h
  | BitOr => cases h
  | BitXor => cases h
  | BitAnd => cases h
theorem neg_ok {x d : D} {a : V} (hx : Rep W S x a) (h : negD x = some d) {Q : VK} (hQ : ∀ v H', Mk W S H d v H' → Q v H') : ∃ i, a = .int i ∧ Q (.int (-i)) H := by
  unfold negD at h
  split at h
  · cases h
    rw [rep_int] at hx
    subst hx
    exact ⟨_, rfl, hQ _ _ (.old (fun _ z => by cases z) (rep_int.mpr rfl))⟩
  · cases h
/-- a value's truth -/
theorem tru_D {K : PySem.W.Frag} {x : D} {a : V} {k : Bool} (sub : Sub S H) (hx : Rep W S x a) (h : truD x = some k) : TruV K a H k := by
  unfold truD at h
  split at h
  · cases h; rw [rep_non] at hx; subst hx; rfl
  · cases h; rw [rep_bl] at hx; subst hx; rfl
  · cases h; rw [rep_int] at hx; subst hx; rfl
  · cases h
    rw [rep_lst] at hx
    obtain ⟨p, vs, rfl, e1, r1⟩ := hx
    refine .inl ⟨vs, SqL.of (sub _ _ e1), ?_⟩
    have := r1.length
    rename_i xs
    cases xs <;> cases vs <;> first | rfl | simp at this
  · cases h
    rw [rep_tup] at hx
    obtain ⟨p, vs, rfl, e1, r1⟩ := hx
    refine .inr (.inl ⟨vs, SqT.of (sub _ _ e1), ?_⟩)
    have := r1.length
    rename_i xs
    cases xs <;> cases vs <;> first | rfl | simp at this
  · split at h
    · rename_i hz
      cases h
      rw [rep_str] at hx
      subst hx
      exact ⟨hz, rfl⟩
    · cases h
  · cases h
theorem op_isBx : OpR X (compareOp .Is) (fun x y H Q => ∃ b, y = .bl b ∧ Q (.bl (decide (x = .bl b))) H) := by
  intro pins s σ H x y v u Q I rx ry h
  obtain ⟨b, rfl, q⟩ := h
  cases (show u = Value.bool b from ry)
  cases x with
  | bl a =>
    cases (show v = Value.bool a from rx)
    by_cases e : a = b
    · subst e
      exact wpAny_is_self rfl ⟨.bl true, H, I, rfl, by simpa using q⟩
    · exact wpAny_is_other rfl (fun z => e (Value.bool.inj z)) ⟨.bl false, H, I, rfl, by simpa [e] using q⟩
  | non => cases (show v = Value.none from rx); exact wpAny_is_other rfl (fun z => by cases z) ⟨.bl false, H, I, rfl, by simpa using q⟩
  | int i => obtain ⟨t, rfl⟩ := (show ∃ t, v = Value.int i t from rx); exact wpAny_is_other rfl (fun z => by cases z) ⟨.bl false, H, I, rfl, by simpa using q⟩
  | str i => obtain ⟨t, rfl⟩ := (show ∃ t, v = Value.str i t from rx); exact wpAny_is_other rfl (fun z => by cases z) ⟨.bl false, H, I, rfl, by simpa using q⟩
  | byt i => obtain ⟨t, rfl⟩ := (show ∃ t, v = Value.bytes i t from rx); exact wpAny_is_other rfl (fun z => by cases z) ⟨.bl false, H, I, rfl, by simpa using q⟩
  | flt i => obtain ⟨t, rfl⟩ := (show ∃ t, v = Value.float i t from rx); exact wpAny_is_other rfl (fun z => by cases z) ⟨.bl false, H, I, rfl, by simpa using q⟩
  | ref i => cases (show v = Value.ref i from rx); exact wpAny_is_other rfl (fun z => by cases z) ⟨.bl false, H, I, rfl, by simpa using q⟩
  | ty i => cases (show v = Value.type i from rx); exact wpAny_is_other rfl (fun z => by cases z) ⟨.bl false, H, I, rfl, by simpa using q⟩
theorem op_notBx : OpR X (compareOp .IsNot) (fun x y H Q => ∃ b, y = .bl b ∧ Q (.bl (!decide (x = .bl b))) H) := by
  intro pins s σ H x y v u Q I rx ry h
  obtain ⟨b, rfl, q⟩ := h
  cases (show u = Value.bool b from ry)
  cases x with
  | bl a =>
    cases (show v = Value.bool a from rx)
    by_cases e : a = b
    · subst e
      exact wpAny_isNot_self rfl ⟨.bl false, H, I, rfl, by simpa using q⟩
    · exact wpAny_isNot_other rfl (fun z => e (Value.bool.inj z)) ⟨.bl true, H, I, rfl, by simpa [e] using q⟩
  | non => cases (show v = Value.none from rx); exact wpAny_isNot_other rfl (fun z => by cases z) ⟨.bl true, H, I, rfl, by simpa using q⟩
  | int i => obtain ⟨t, rfl⟩ := (show ∃ t, v = Value.int i t from rx); exact wpAny_isNot_other rfl (fun z => by cases z) ⟨.bl true, H, I, rfl, by simpa using q⟩
  | str i => obtain ⟨t, rfl⟩ := (show ∃ t, v = Value.str i t from rx); exact wpAny_isNot_other rfl (fun z => by cases z) ⟨.bl true, H, I, rfl, by simpa using q⟩
  | byt i => obtain ⟨t, rfl⟩ := (show ∃ t, v = Value.bytes i t from rx); exact wpAny_isNot_other rfl (fun z => by cases z) ⟨.bl true, H, I, rfl, by simpa using q⟩
  | flt i => obtain ⟨t, rfl⟩ := (show ∃ t, v = Value.float i t from rx); exact wpAny_isNot_other rfl (fun z => by cases z) ⟨.bl true, H, I, rfl, by simpa using q⟩
  | ref i => cases (show v = Value.ref i from rx); exact wpAny_isNot_other rfl (fun z => by cases z) ⟨.bl true, H, I, rfl, by simpa using q⟩
  | ty i => cases (show v = Value.type i from rx); exact wpAny_isNot_other rfl (fun z => by cases z) ⟨.bl true, H, I, rfl, by simpa using q⟩
/-- is, by values -/
theorem is_vals {x y : D} {a b : V} {k : Bool} (hx : Rep W S x a) (hy : Rep W S y b) (h : isD x y = some k) : (b = .non ∧ k = decide (a = .non)) ∨ ∃ c, b = .bl c ∧ k = decide (a = .bl c) := by
  unfold isD at h
  split at h <;> cases h
  all_goals first
    | rw [rep_non] at hy; subst hy
      refine .inl ⟨rfl, ?_⟩
      first
        | rw [rep_non] at hx; subst hx; rfl
        | rw [rep_bl] at hx; subst hx; rfl
        | rw [rep_int] at hx; subst hx; rfl
        | rw [rep_str] at hx; subst hx; rfl
        | (rw [rep_lst] at hx; obtain ⟨_, _, rfl, _⟩ := hx; rfl)
        | (rw [rep_tup] at hx; obtain ⟨_, _, rfl, _⟩ := hx; rfl)
        | (rw [rep_fn] at hx; obtain ⟨rfl, _⟩ := hx; rfl)
        | (rw [rep_exn] at hx; obtain ⟨_, _, _, rfl, _⟩ := hx; rfl)
    | rw [rep_bl] at hy; subst hy
      refine .inr ⟨_, rfl, ?_⟩
      first
        | rw [rep_non] at hx; subst hx; rfl
        | (rw [rep_bl] at hx; subst hx; exact dec_bl.symm)
        | (rw [rep_int] at hx; subst hx; rfl)
        | (rw [rep_str] at hx; subst hx; rfl)
        | (rw [rep_lst] at hx; obtain ⟨_, _, rfl, _⟩ := hx; rfl)
        | (rw [rep_tup] at hx; obtain ⟨_, _, rfl, _⟩ := hx; rfl)
        | (rw [rep_fn] at hx; obtain ⟨rfl, _⟩ := hx; rfl)
        | (rw [rep_exn] at hx; obtain ⟨_, _, _, rfl, _⟩ := hx; rfl)
theorem Dp.sub {K : PySem.W.Frag} {S H : Hp} (sub : Sub S H) : ∀ (d : PyData) (v : V), Dp K S v d → Dp K H v d := by
  have seqT : ∀ {a : Addr} {xs : List V}, SqT K S a xs → SqT K H a xs := fun {a xs} h => by
    rcases h with (h | ⟨o, h⟩) | h
    · exact .inl (.inl (sub _ _ h))
    · exact .inl (.inr ⟨o, sub _ _ h⟩)
    · exact .inr h
  have main : ∀ n : Nat, (∀ (d : PyData) (v : V), sizeOf d < n → Dp K S v d → Dp K H v d) ∧ ∀ (ds : List PyData) (vs : List V), sizeOf ds < n → DpAll K S vs ds → DpAll K H vs ds := by
    intro n
    induction n with
    | zero => exact ⟨fun _ _ h => absurd h (Nat.not_lt_zero _), fun _ _ h => absurd h (Nat.not_lt_zero _)⟩
    | succ n ih =>
      refine ⟨fun d v hn h => ?_, fun ds vs hn h => ?_⟩
      · cases h with
        | non => exact .non
        | bl b => exact .bl b
        | int i => exact .int i
        | str x => exact .str x
        | lst a q => exact .lst (sub.seq a) (ih.2 _ _ (by simp at hn; omega) q)
        | tup a q => exact .tup (seqT a) (ih.2 _ _ (by simp at hn; omega) q)
      · cases h with
        | nil => exact .nil
        | cons a q => exact .cons (ih.1 _ _ (by simp at hn; omega) a) (ih.2 _ _ (by simp at hn; omega) q)
  exact fun d v h => (main (sizeOf d + 1)).1 d v (Nat.lt_succ_self _) h
theorem op_inTD (hu : X.A.units + 65 < cLine) : OpR X (compareOp .In) (fun x y H Q => ∃ d ds, Dp X.K H x d ∧ Dp X.K H y (.tuple ds) ∧ SeqAt.shaped d = true ∧ SeqAt.shaped (.tuple ds) = true ∧ Q (.bl (ds.any fun z => PyData.eqv z d)) H) := by
  intro pins s σ H x y v u Q I rx ry h
  obtain ⟨d, ds, hd, he, sd, se, q⟩ := h
  obtain ⟨as, r1⟩ := Dp.reads I d x v hd rx
  obtain ⟨bs, r2⟩ := Dp.reads I (.tuple ds) y u he ry
  exact SeqAt.in_tuple_reads r2 r1 (SeqAt.canLay_of_shaped se) (SeqAt.canLay_of_shaped sd) (room_in_shaped sd hu) ⟨.bl _, H, I, rfl, q⟩
/-- a comparison of values -/
theorem cmp_ok {op : CmpOp} {x y : D} {a b : V} {k : Bool} (hK : W.K = X.K) (hu : X.A.units + 65 < cLine) (sub : Sub S H) (hx : Rep W S x a) (hy : Rep W S y b) (h : cmpD op x y = some k) {Q : VK} (hQ : Q (.bl k) H) :
    ∃ r, OpR X (compareOp op) r ∧ r a b H Q := by
  have hu0 : X.A.units + 64 < cLine := by omega
  have hu1 : X.A.units < cLine := by omega
  have hu2 : X.A.units + 65 < cLine := hu
  unfold cmpD at h
  have eqv : ∀ {k : Bool}, eqD x y = some k → ∃ d e, Dp X.K H a d ∧ Dp X.K H b e ∧ SeqAt.shaped d = true ∧ SeqAt.shaped e = true ∧ k = PyData.eqv d e := fun {k} h => by
    unfold eqD at h
    split at h
    · rename_i d e h1 h2
      split at h
      · rename_i hz
        cases h
        rw [Bool.and_eq_true] at hz
        rw [← hK]
        exact ⟨d, e, Dp.sub sub _ _ (hx.dp h1), Dp.sub sub _ _ (hy.dp h2), hz.1, hz.2, rfl⟩
      · cases h
    · cases h
  have inv : ∀ {k : Bool}, inD x y = some k → ∃ d ds, Dp X.K H a d ∧ Dp X.K H b (.list ds) ∧ SeqAt.shaped d = true ∧ SeqAt.shaped (.list ds) = true ∧ k = ds.any fun z => PyData.eqv z d := fun {k} h => by
    unfold inD at h
    split at h
    · rename_i d es h1 h2
      split at h
      · rename_i hz
        cases h
        rw [Bool.and_eq_true] at hz
        rw [← hK]
        exact ⟨d, es, Dp.sub sub _ _ (hx.dp h1), Dp.sub sub _ _ (hy.dp h2), hz.1, hz.2, rfl⟩
      · cases h
    · cases h
  cases op with
  | Eq =>
    obtain ⟨d, e, h1, h2, h3, h4, rfl⟩ := eqv h
    exact ⟨_, op_eqD hu0, d, e, h1, h2, h3, h4, hQ⟩
  | NotEq =>
    simp only at h
    cases hk : eqD x y with
    | none => rw [hk] at h; cases h
    | some k' =>
      rw [hk] at h
      cases h
      obtain ⟨d, e, h1, h2, h3, h4, rfl⟩ := eqv hk
      exact ⟨_, op_neD hu0, d, e, h1, h2, h3, h4, hQ⟩
  | Lt =>
    simp only at h
    unfold ltD at h
    split at h
    · cases h
      rw [rep_int] at hx hy
      subst hx hy
      exact ⟨_, op_lt, _, _, rfl, rfl, hQ⟩
    · cases h
      rw [rep_str] at hx hy
      subst hx hy
      exact ⟨_, op_lt_str, _, _, rfl, rfl, hQ⟩
    · split at h
      · rename_i h1 h2
        cases h
        rw [rep_tup] at hx hy
        obtain ⟨p, vs, rfl, e1, r1⟩ := hx
        obtain ⟨q, ws, rfl, e2, r2⟩ := hy
        have z1 := r1.ints h1
        have z2 := r2.ints h2
        subst z1 z2
        exact ⟨_, op_ltT hu1, _, _, _, _, rfl, rfl, SqT.of (sub _ _ e1), SqT.of (sub _ _ e2), hQ⟩
      · cases h
    · cases h
  | LtE =>
    simp only at h
    unfold leD at h
    split at h
    · cases h
      rw [rep_int] at hx hy
      subst hx hy
      exact ⟨_, op_le, _, _, rfl, rfl, hQ⟩
    · cases h
  | Gt =>
    simp only at h
    split at h
    · cases h
      rw [rep_int] at hx hy
      subst hx hy
      exact ⟨_, op_gt, _, _, rfl, rfl, hQ⟩
    · cases h
  | GtE =>
    simp only at h
    split at h
    · cases h
      rw [rep_int] at hx hy
      subst hx hy
      exact ⟨_, op_ge, _, _, rfl, rfl, hQ⟩
    · cases h
  | Is =>
    rcases is_vals hx hy h with ⟨rfl, rfl⟩ | ⟨c, rfl, rfl⟩
    · exact ⟨_, op_isN, rfl, hQ⟩
    · exact ⟨_, op_isBx, c, rfl, hQ⟩
  | IsNot =>
    simp only at h
    cases hk : isD x y with
    | none => rw [hk] at h; cases h
    | some k' =>
      rw [hk] at h
      cases h
      rcases is_vals hx hy hk with ⟨rfl, rfl⟩ | ⟨c, rfl, rfl⟩
      · exact ⟨_, op_notN, rfl, hQ⟩
      · exact ⟨_, op_notBx, c, rfl, hQ⟩
  | In =>
    obtain ⟨d, ds, h1, h2, h3, h4, rfl⟩ := inv h
    exact ⟨_, op_inD hu2, d, ds, h1, h2, h3, h4, hQ⟩
  | NotIn =>
    simp only at h
    cases hk : inD x y with
    | none => rw [hk] at h; cases h
    | some k' =>
      rw [hk] at h
      cases h
      obtain ⟨d, ds, h1, h2, h3, h4, rfl⟩ := inv hk
      exact ⟨_, op_notInD hu2, d, ds, h1, h2, h3, h4, hQ⟩
theorem atI_len {α β : Type} {xs : List α} {ys : List β} {i : Int} {x : α} (hl : xs.length = ys.length) (h : atI xs i = some x) : ∃ j : Nat, xs[j]? = some x ∧ ∀ y, ys[j]? = some y → atI ys i = some y := by
  unfold atI at h
  cases e : ixN xs.length i with
  | none => rw [e] at h; cases h
  | some j =>
    rw [e] at h
    refine ⟨j, h, fun y hy => ?_⟩
    unfold atI
    rw [← hl, e]
    exact hy
theorem rep_atI {ds : List D} {vs : List V} {i : Int} {d : D} (r : Reps W S ds vs) (h : atI ds i = some d) : ∃ v, atI vs i = some v ∧ Rep W S d v := by
  obtain ⟨j, e, k⟩ := atI_len (ys := vs) r.length h
  obtain ⟨v, h1, h2⟩ := r.get e
  exact ⟨v, k v h1, h2⟩
/-- x[i]: what is told stands already -/
theorem idx_ok {x y d : D} {a b : V} (hK : W.K = X.K) (sub : Sub S H) (hx : Rep W S x a) (hy : Rep W S y b) (h : idxD x y = some d) {Q : VK} (hQ : ∀ v, Rep W S d v → Q v H) : ∃ r, IxR X r ∧ r a b H Q := by
  unfold idxD at h
  split at h
  · rw [rep_lst] at hx
    rw [rep_int] at hy
    obtain ⟨p, vs, rfl, e1, r1⟩ := hx
    subst hy
    obtain ⟨v, h1, h2⟩ := rep_atI r1 h
    exact ⟨_, ix_list, p, vs, _, v, rfl, rfl, SqL.of (sub _ _ e1), h1, hQ v h2⟩
  · rw [rep_tup] at hx
    rw [rep_int] at hy
    obtain ⟨p, vs, rfl, e1, r1⟩ := hx
    subst hy
    obtain ⟨v, h1, h2⟩ := rep_atI r1 h
    exact ⟨_, ix_tup, p, vs, _, v, rfl, rfl, SqT.of (sub _ _ e1), h1, hQ v h2⟩
  · rename_i ns i
    rw [rep_scr] at hx
    rw [rep_int] at hy
    obtain ⟨p, rfl, e1⟩ := hx
    subst hy
    cases hn : atI ns i with
    | none => rw [hn] at h; cases h
    | some n =>
      rw [hn] at h
      cases h
      obtain ⟨j, e, k⟩ := atI_len (ys := ns.map V.int) (by simp) hn
      refine ⟨_, ix_list, p, _, _, .int n, rfl, rfl, by rw [← hK]; exact sub.seq e1, k _ (by rw [List.getElem?_map, e]; rfl), hQ _ (rep_int.mpr rfl)⟩
  · rename_i z i
    split at h
    · rename_i hz
      rw [rep_str] at hx
      rw [rep_int] at hy
      subst hx hy
      cases hn : atI z.cps.toList i with
      | none => rw [hn] at h; cases h
      | some c =>
        rw [hn] at h
        cases h
        exact ⟨_, ix_str, _, _, c, rfl, rfl, hz, hn, hQ _ (rep_str.mpr rfl)⟩
    · cases h
  · cases h
theorem cut_map {α β : Type} (f : α → β) (xs : List α) (lo hi : Option Int) : cutL (xs.map f) lo hi = (cutL xs lo hi).map f := by
  unfold cutL
  rw [List.length_map, List.map_take, List.map_drop]
theorem cut_len {α : Type} (xs : List α) (lo hi : Option Int) : (cutL xs lo hi).length ≤ xs.length := by
  unfold cutL
  rw [List.length_take, List.length_drop]
  omega
theorem reps_cut {ds : List D} {vs : List V} (r : Reps W S ds vs) (lo hi : Option Int) : Reps W S (cutL ds lo hi) (cutL vs lo hi) := by
  unfold cutL
  rw [r.length]
  exact (r.drop _).take _
/-- x[lo:hi] -/
theorem sl_ok {x d : D} {a : V} {lo hi : Option Int} (hK : W.K = X.K) (hz : ∀ p vs, H p = some (.lst vs) ∨ H p = some (.tup vs) → vs.length ≤ sizeLine) (sub : Sub S H) (hx : Rep W S x a) (h : slD x lo hi = some d) {Q : VK} (hQ : ∀ v H', Mk W S H d v H' → Q v H') :
    ∃ r, SlR X r ∧ r a lo hi H Q := by
  unfold slD at h
  split at h
  · cases h
    rw [rep_lst] at hx
    obtain ⟨p, vs, rfl, e1, r1⟩ := hx
    exact ⟨_, sl_list, p, vs, rfl, SqL.of (sub _ _ e1), fun t ht => hQ _ _ (.lst t ht (reps_cut r1 lo hi) (Nat.le_trans (cut_len vs lo hi) (hz p vs (.inl (sub _ _ e1)))))⟩
  · split at h
    · rename_i ns hlen
      cases h
      rw [rep_scr] at hx
      obtain ⟨p, rfl, e1⟩ := hx
      have e2 := sub.seq e1
      rw [hK] at e2
      refine ⟨_, sl_list, p, _, rfl, e2, fun t ht => ?_⟩
      have z : cutV (ns.map V.int) lo hi = (cutL ns lo hi).map V.int := cut_map V.int ns lo hi
      rw [z]
      refine hQ _ _ (.lst t ht (reps_ints W S _) ?_)
      rw [List.length_map]
      exact Nat.le_trans (cut_len ns lo hi) hlen
    · cases h
  · cases h
    have hx' := hx
    rename_i xs
    rw [rep_tup] at hx
    obtain ⟨p, vs, rfl, e1, r1⟩ := hx
    refine ⟨_, sl_tupA, p, vs, rfl, SqT.of (sub _ _ e1), fun ⟨z1, z2⟩ => ?_, fun _ t ht => hQ _ _ (.tup t ht (reps_cut r1 lo hi) (Nat.le_trans (cut_len vs lo hi) (hz p vs (.inr (sub _ _ e1)))))⟩
    refine hQ _ _ (.old (fun _ z => by cases z) ?_)
    have e : cutL xs lo hi = xs := by
      unfold cutL
      rw [r1.length, z1, z2, ← r1.length]
      simp
    rw [e]
    exact hx'
  · split at h
    · rename_i hz
      cases h
      rw [rep_str] at hx
      subst hx
      exact ⟨_, sl_str, _, rfl, hz, hQ _ _ (.old (fun _ z => by cases z) (rep_str.mpr rfl))⟩
    · cases h
  · cases h

/-! ### built-ins -/
/-- the call of a built-in, by values -/
theorem OpRid {f : Value} : CallR X f (fun _ _ _ => False) := fun _ _ _ _ _ _ _ _ _ h => h.elim
theorem ty_ok {x : D} {a : V} {n : String} {k : Bool} (hK : W.K = X.K) (sub : Sub S H) (hx : Rep W S x a) (h : isiD x n = some k) : ∃ t, TyX X.K H a t ∧ PySem.W.kitOne X.K t (.type n) = some k := by
  unfold isiD at h
  split at h
  · rw [rep_non] at hx; subst hx; exact ⟨_, .base .non, kit_ty h⟩
  · rw [rep_bl] at hx; subst hx; exact ⟨_, .base (.bl _), kit_ty h⟩
  · rw [rep_int] at hx; subst hx; exact ⟨_, .base (.int _), kit_ty h⟩
  · rw [rep_str] at hx; subst hx; exact ⟨_, .base (.str _), kit_ty h⟩
  · rw [rep_lst] at hx
    obtain ⟨p, vs, rfl, e1, r1⟩ := hx
    exact ⟨_, .base (.lst (sub _ _ e1)), kit_ty h⟩
  · rw [rep_scr] at hx
    obtain ⟨p, rfl, e1⟩ := hx
    have e2 := sub.seq e1
    rw [hK] at e2
    rcases e2 with (e | ⟨o, e⟩) | ⟨o, its, m, e, c, _⟩
    · exact ⟨_, .base (.lst e), kit_ty h⟩
    · exact ⟨_, .base (.frz e), kit_ty h⟩
    · exact ⟨_, .kList e c, kit_ty h⟩
  · rw [rep_tup] at hx
    obtain ⟨p, vs, rfl, e1, r1⟩ := hx
    exact ⟨_, .base (.tup (sub _ _ e1)), kit_ty h⟩
  · cases h
theorem ty_all {x : D} {a : V} {n : String} {k : Bool} (hK : W.K = X.K) (sub : Sub S H) (hx : Rep W S x a) (h : isiD x n = some k) : ∃ t, TyX X.K H a t ∧ ∀ m j, isiD x m = some j → PySem.W.kitOne X.K t (.type m) = some j := by
  unfold isiD at h
  split at h
  · rw [rep_non] at hx; subst hx; exact ⟨_, .base .non, fun m j q => kit_ty q⟩
  · rw [rep_bl] at hx; subst hx; exact ⟨_, .base (.bl _), fun m j q => kit_ty q⟩
  · rw [rep_int] at hx; subst hx; exact ⟨_, .base (.int _), fun m j q => kit_ty q⟩
  · rw [rep_str] at hx; subst hx; exact ⟨_, .base (.str _), fun m j q => kit_ty q⟩
  · rw [rep_lst] at hx
    obtain ⟨p, vs, rfl, e1, r1⟩ := hx
    exact ⟨_, .base (.lst (sub _ _ e1)), fun m j q => kit_ty q⟩
  · rw [rep_scr] at hx
    obtain ⟨p, rfl, e1⟩ := hx
    have e2 := sub.seq e1
    rw [hK] at e2
    rcases e2 with (e | ⟨o, e⟩) | ⟨o, its, m, e, c, _⟩
    · exact ⟨_, .base (.lst e), fun m j q => kit_ty q⟩
    · exact ⟨_, .base (.frz e), fun m j q => kit_ty q⟩
    · exact ⟨_, .kList e c, fun m j q => kit_ty q⟩
  · rw [rep_tup] at hx
    obtain ⟨p, vs, rfl, e1, r1⟩ := hx
    exact ⟨_, .base (.tup (sub _ _ e1)), fun m j q => kit_ty q⟩
  · cases h
theorem cls_all : ∀ {ts : List D} {vs : List V} {ns : List String}, Reps W S ts vs → tysOf ts = some ns → Paired ClsV vs (ns.map Value.type)
  | [], _, _, r, e => by
    rw [reps_nil] at r
    unfold tysOf at e
    subst r
    cases e
    exact .nil
  | d :: ds, _, _, r, e => by
    rw [reps_cons] at r
    obtain ⟨v, q, rfl, x, y⟩ := r
    cases d with
    | ty n =>
      unfold tysOf at e
      cases h : tysOf ds with
      | none => rw [h] at e; cases e
      | some ms =>
        rw [h] at e; cases e
        rw [rep_ty] at x
        subst x
        exact .cons (.ty n) (cls_all y h)
    | _ => unfold tysOf at e; cases e
theorem any_all {K : PySem.W.Frag} {x : D} {t : Value} (ht : ∀ m j, isiD x m = some j → PySem.W.kitOne K t (.type m) = some j) : ∀ {ns : List String} {k : Bool}, anyIsi x ns = some k → PySem.W.kitAny K t (ns.map Value.type) = some k
  | [], k, h => by
    unfold anyIsi at h
    cases h
    exact kitAny_nil
  | n :: ns, k, h => by
    unfold anyIsi at h
    split at h
    · rename_i he
      cases h
      show PySem.W.kitAny K t (Value.type n :: ns.map Value.type) = some true
      unfold PySem.W.kitAny
      rw [ht n true he]
    · rename_i he
      exact kitAny_cons (ht n false he) (fun _ => any_all ht h) (fun z => by cases z)
    · cases h
theorem len_ok {x d : D} {a : V} (hK : W.K = X.K) (sub : Sub S H) (hx : Rep W S x a) (h : lenD x = some d) : ∃ n : Nat, LenV X.K a H n ∧ d = .int n := by
  unfold lenD at h
  split at h
  · cases h
    rw [rep_lst] at hx
    obtain ⟨p, vs, rfl, e1, r1⟩ := hx
    exact ⟨vs.length, .inl ⟨vs, SqL.of (sub _ _ e1), rfl⟩, by rw [r1.length]⟩
  · cases h
    rw [rep_tup] at hx
    obtain ⟨p, vs, rfl, e1, r1⟩ := hx
    exact ⟨vs.length, .inr ⟨vs, SqT.of (sub _ _ e1), rfl⟩, by rw [r1.length]⟩
  · cases h
    rw [rep_scr] at hx
    obtain ⟨p, rfl, e1⟩ := hx
    have e2 := sub.seq e1
    rw [hK] at e2
    exact ⟨_, .inl ⟨_, e2, rfl⟩, by simp⟩
  · split at h
    · rename_i hz
      cases h
      rw [rep_str] at hx
      subst hx
      exact ⟨_, ⟨hz, rfl⟩, rfl⟩
    · cases h
  · cases h
/-- the function or class that a built-in's name stands for -/
def biV : BI → Value
  | .abs => .builtin "abs"
  | .int => .type "int"
  | .max => .builtin "max"
  | .min => .builtin "min"
  | .len => .builtin "len"
  | .sum => .builtin "sum"
  | .isi => .builtin "isinstance"
  | .list => .type "list"
  | .tuple => .type "tuple"
  | .bool => .type "bool"
  | .sorted => .builtin "sorted"
  | .all => .builtin "all"
  | .repr => .builtin "repr"
theorem rv1 {v : V} {us : List Value} (r : Vals [v] us) : ∃ u, us = [u] ∧ RelV v u := by
  cases r with
  | cons p q => cases q; exact ⟨_, rfl, p⟩
theorem cr_repr (hg : X.A.guards = some []) (hu : X.A.units + 66 < cLine) : CallR X (.builtin "repr") (fun xs H Q => ∃ v d, xs = [v] ∧ Dp X.K H v d ∧ d.showable = true ∧ d.hasDict = false ∧ d.depth ≤ 64 ∧ d.shown.length ≤ sizeLine ∧ Q (.str d.shown) H) := by
  intro pins s σ H xs us Q I r h
  obtain ⟨v, d, rfl, hd, hs, hn, h64, hz, q⟩ := h
  obtain ⟨u, rfl, ru⟩ := rv1 r
  have ref : ∀ {a : Addr}, u = .ref a → wpAny (model X.prog X.w) X.A (call (.builtin "repr") [u]) (EP X pins σ Q) X.xe s := fun {a} e => by
    obtain ⟨as, rd⟩ := Dp.reads I d v u hd ru
    subst e
    exact repr_of_reads' rd hs (fun z => by rw [hn] at z; cases z) hg (by omega) (fun b o e => e) (fun h' t tk hk => ⟨.str _, H, I.kept (h' := h') (t' := tk) hk, ⟨_, rfl⟩, q⟩) hz
  cases hd with
  | non =>
    cases ru
    exact PySem.P.repr_of_none ⟨.str _, H, I.tok _, ⟨_, rfl⟩, q⟩
  | bl b =>
    cases ru
    exact PySem.P.repr_of_bool ⟨.str _, H, I.tok _, ⟨_, rfl⟩, q⟩
  | int i =>
    obtain ⟨t, rfl⟩ := ru
    have hs : decide (i.natAbs.log2 < 1920) = true := hs
    exact PySem.P.repr_of_int (of_decide_eq_true hs) ⟨.str _, H, I.tok _, ⟨_, rfl⟩, q⟩
  | str x =>
    obtain ⟨t, rfl⟩ := ru
    exact PySem.P.repr_of_str ⟨.str _, H, I.tok _, ⟨_, rfl⟩, q⟩ hz
  | lst _ _ => exact ref (show u = .ref _ from ru)
  | tup _ _ => exact ref (show u = .ref _ from ru)
theorem sortI_eq {ns ms : List Int} (h1 : ms.Perm ns) (h2 : ms.Pairwise (· ≤ ·)) : ms = sortI ns := by
  refine List.Perm.eq_of_pairwise (le := fun a b : Int => a ≤ b) (fun a b _ _ q1 q2 => Int.le_antisymm q1 q2) h2 ?_ (h1.trans (List.mergeSort_perm ns _).symm)
  have := List.pairwise_mergeSort (le := fun a b : Int => decide (a ≤ b)) (fun a b c q1 q2 => by simp at *; omega) (fun a b => by simp; omega) ns
  exact this.imp fun q => by simpa using q
theorem reps_strs (W : Wd) (S : Hp) : ∀ ys : List Str, Reps W S (ys.map D.str) (ys.map V.str)
  | [] => reps_nil.mpr rfl
  | n :: ns => reps_cons.mpr ⟨_, _, rfl, rep_str.mpr rfl, reps_strs W S ns⟩
theorem Reps.strs {W : Wd} {S : Hp} : ∀ {ds : List D} {vs : List V} {ys : List Str}, Reps W S ds vs → strsOf ds = some ys → vs = ys.map V.str
  | [], _, _, r, e => by
    rw [reps_nil] at r
    unfold strsOf at e
    subst r
    cases e
    rfl
  | d :: ds, _, _, r, e => by
    rw [reps_cons] at r
    obtain ⟨v, q, rfl, x, y⟩ := r
    cases d with
    | str b =>
      unfold strsOf at e
      cases h : strsOf ds with
      | none => rw [h] at e; cases e
      | some ms =>
        rw [h] at e; cases e
        rw [rep_str] at x
        subst x
        rw [y.strs h]
        rfl
    | _ => unfold strsOf at e; cases e
theorem Reps.bls {W : Wd} {S : Hp} : ∀ {ds : List D} {vs : List V} {bs : List Bool}, Reps W S ds vs → blsOf ds = some bs → vs = bs.map V.bl
  | [], _, _, r, e => by
    rw [reps_nil] at r
    unfold blsOf at e
    subst r
    cases e
    rfl
  | d :: ds, _, _, r, e => by
    rw [reps_cons] at r
    obtain ⟨v, q, rfl, x, y⟩ := r
    cases d with
    | bl b =>
      unfold blsOf at e
      cases h : blsOf ds with
      | none => rw [h] at e; cases e
      | some ms =>
        rw [h] at e; cases e
        rw [rep_bl] at x
        subst x
        rw [y.bls h]
        rfl
    | _ => unfold blsOf at e; cases e
theorem reps1 {d : D} {vs : List V} (r : Reps W S [d] vs) : ∃ v, vs = [v] ∧ Rep W S d v := by
  rw [reps_cons] at r
  obtain ⟨v, q, rfl, x, y⟩ := r
  rw [reps_nil] at y
  subst y
  exact ⟨v, rfl, x⟩
theorem reps2 {d e : D} {vs : List V} (r : Reps W S [d, e] vs) : ∃ v w, vs = [v, w] ∧ Rep W S d v ∧ Rep W S e w := by
  rw [reps_cons] at r
  obtain ⟨v, q, rfl, x, y⟩ := r
  obtain ⟨w, rfl, z⟩ := reps1 y
  exact ⟨v, w, rfl, x, z⟩
theorem bi_ok {b : BI} {xs : List D} {d : D} {vs : List V} (hK : W.K = X.K) (hgd : X.A.guards = some []) (hu : X.A.units + 66 < cLine) (hc : X.calm = true) (hz : ∀ p vs, H p = some (.lst vs) ∨ H p = some (.tup vs) → vs.length ≤ sizeLine) (sub : Sub S H) (hx : Reps W S xs vs) (h : biD b xs = some d) {Q : VK} (hQ : ∀ v H', Mk W S H d v H' → Q v H') :
    ∃ r, CallR X (biV b) r ∧ r vs H Q := by
  have hi : ∀ {i : Int}, Mk W S H (.int i) (.int i) H := .old (fun _ z => by cases z) (rep_int.mpr rfl)
  have hb : ∀ {i : Bool}, Mk W S H (.bl i) (.bl i) H := .old (fun _ z => by cases z) (rep_bl.mpr rfl)
  unfold biD at h
  cases b <;> simp only at h
  case abs =>
    split at h
    · cases h
      obtain ⟨v, rfl, r⟩ := reps1 hx
      rw [rep_int] at r
      subst r
      exact ⟨_, call_abs, _, rfl, hQ _ _ hi⟩
    · cases h
  case int =>
    split at h
    · cases h
      obtain ⟨v, rfl, r⟩ := reps1 hx
      rw [rep_int] at r
      subst r
      exact ⟨_, call_int1, .inl ⟨_, rfl, hQ _ _ hi⟩⟩
    · cases h
      obtain ⟨v, rfl, r⟩ := reps1 hx
      rw [rep_bl] at r
      subst r
      exact ⟨_, call_int1, .inr ⟨_, rfl, hQ _ _ hi⟩⟩
    · cases h
  case bool =>
    split at h
    · cases h
      obtain ⟨v, rfl, r⟩ := reps1 hx
      rw [rep_int] at r
      subst r
      exact ⟨_, call_bool1, .inl ⟨_, rfl, hQ _ _ hb⟩⟩
    · cases h
      obtain ⟨v, rfl, r⟩ := reps1 hx
      rw [rep_bl] at r
      subst r
      exact ⟨_, call_bool1, .inr ⟨_, rfl, hQ _ _ hb⟩⟩
    · cases h
  case max =>
    split at h
    · cases h
      obtain ⟨v, w, rfl, r1, r2⟩ := reps2 hx
      rw [rep_int] at r1 r2
      subst r1 r2
      exact ⟨_, call_max2 hc, _, _, rfl, hQ _ _ hi⟩
    · rename_i ds
      obtain ⟨v, rfl, r⟩ := reps1 hx
      rw [rep_lst] at r
      obtain ⟨p, ws, rfl, e1, r1⟩ := r
      cases hn : intsOf ds with
      | none => rw [hn] at h; cases h
      | some ns =>
        rw [hn] at h
        have h : ns.max?.map D.int = some d := h
        cases hm : ns.max? with
        | none => rw [hm] at h; cases h
        | some M =>
          rw [hm] at h
          cases h
          have e := r1.ints hn
          subst e
          obtain ⟨m1, m2⟩ := List.max?_eq_some_iff.mp hm
          refine ⟨_, cr_max hc, p, ns, rfl, SqL.of (sub _ _ e1), List.length_pos_of_mem m1, fun m h1 h2 => ?_⟩
          have e : m = M := Int.le_antisymm (m2 m h1) (h2 M m1)
          subst e
          exact hQ _ _ hi
    · cases h
  case min =>
    split at h
    · cases h
      obtain ⟨v, w, rfl, r1, r2⟩ := reps2 hx
      rw [rep_int] at r1 r2
      subst r1 r2
      exact ⟨_, call_min2 hc, _, _, rfl, hQ _ _ hi⟩
    · rename_i ds
      obtain ⟨v, rfl, r⟩ := reps1 hx
      rw [rep_lst] at r
      obtain ⟨p, ws, rfl, e1, r1⟩ := r
      cases hn : intsOf ds with
      | none => rw [hn] at h; cases h
      | some ns =>
        rw [hn] at h
        have h : ns.min?.map D.int = some d := h
        cases hm : ns.min? with
        | none => rw [hm] at h; cases h
        | some M =>
          rw [hm] at h
          cases h
          have e := r1.ints hn
          subst e
          obtain ⟨m1, m2⟩ := List.min?_eq_some_iff.mp hm
          refine ⟨_, cr_min hc, p, ns, rfl, SqL.of (sub _ _ e1), List.length_pos_of_mem m1, fun m h1 h2 => ?_⟩
          have e : m = M := Int.le_antisymm (h2 M m1) (m2 m h1)
          subst e
          exact hQ _ _ hi
    · cases h
  case len =>
    split at h
    · obtain ⟨v, rfl, r⟩ := reps1 hx
      obtain ⟨n, q, rfl⟩ := len_ok hK sub r h
      exact ⟨_, call_len, v, n, rfl, q, hQ _ _ hi⟩
    · cases h
  case sum =>
    split at h
    · rename_i ds
      obtain ⟨v, rfl, r⟩ := reps1 hx
      rw [rep_lst] at r
      obtain ⟨p, ws, rfl, e1, r1⟩ := r
      cases hn : intsOf ds with
      | none => rw [hn] at h; cases h
      | some ns =>
        rw [hn] at h
        cases h
        have e := r1.ints hn
        subst e
        exact ⟨_, cr_sum hc, p, ns, rfl, SqL.of (sub _ _ e1), hQ _ _ hi⟩
    · cases h
      obtain ⟨v, rfl, r⟩ := reps1 hx
      rw [rep_scr] at r
      obtain ⟨p, rfl, e1⟩ := r
      have e2 := sub.seq e1
      rw [hK] at e2
      exact ⟨_, cr_sum hc, p, _, rfl, e2, hQ _ _ hi⟩
    · cases h
  case isi =>
    split at h
    · rename_i x n
      obtain ⟨v, w, rfl, r1, r2⟩ := reps2 hx
      rw [rep_ty] at r2
      subst r2
      cases hk : isiD x n with
      | none => rw [hk] at h; cases h
      | some k =>
        rw [hk] at h
        cases h
        obtain ⟨t, h1, h2⟩ := ty_ok hK sub r1 hk
        exact ⟨_, call_isi, v, _, t, _, k, rfl, .ty n, h1, h2, hQ _ _ hb⟩
    · rename_i x ts
      obtain ⟨v, w, rfl, r1, r2⟩ := reps2 hx
      rw [rep_tup] at r2
      obtain ⟨p, ws, rfl, e1, r3⟩ := r2
      cases hk : isisD x ts with
      | none => rw [hk] at h; cases h
      | some k =>
        rw [hk] at h
        cases h
        unfold isisD at hk
        split at hk
        · rename_i ns hns
          split at hk
          · cases hk
          · rename_i hne
            cases ns with
            | nil => exact absurd rfl hne
            | cons n ns =>
              have hsome : ∃ j, isiD x n = some j := by
                cases hj : isiD x n with
                | none => unfold anyIsi at hk; rw [hj] at hk; cases hk
                | some j => exact ⟨j, rfl⟩
              obtain ⟨j, hj⟩ := hsome
              obtain ⟨t, h1, h2⟩ := ty_all hK sub r1 hj
              exact ⟨_, call_isiT, v, p, ws, t, _, k, rfl, sub _ _ e1, cls_all r3 hns, h1, any_all h2 hk, hQ _ _ hb⟩
        · cases hk
    · cases h
  case list =>
    split at h
    · cases h
      obtain ⟨v, rfl, r⟩ := reps1 hx
      rw [rep_lst] at r
      obtain ⟨p, ws, rfl, e1, r1⟩ := r
      exact ⟨_, call_list_of, p, ws, rfl, .inl (SqL.of (sub _ _ e1)), fun t ht => hQ _ _ (.lst t ht r1 (hz p ws (.inl (sub _ _ e1))))⟩
    · cases h
      obtain ⟨v, rfl, r⟩ := reps1 hx
      rw [rep_tup] at r
      obtain ⟨p, ws, rfl, e1, r1⟩ := r
      exact ⟨_, call_list_of, p, ws, rfl, .inr (SqT.of (sub _ _ e1)), fun t ht => hQ _ _ (.lst t ht r1 (hz p ws (.inr (sub _ _ e1))))⟩
    · cases h
  case tuple =>
    split at h
    · cases h
      obtain ⟨v, rfl, r⟩ := reps1 hx
      rw [rep_lst] at r
      obtain ⟨p, ws, rfl, e1, r1⟩ := r
      exact ⟨_, call_tuple_of, p, ws, rfl, .inl ⟨SqL.of (sub _ _ e1), fun t ht => hQ _ _ (.tup t ht r1 (hz p ws (.inl (sub _ _ e1))))⟩⟩
    · cases h
      obtain ⟨v, rfl, r⟩ := reps1 hx
      have r' := r
      rw [rep_tup] at r
      obtain ⟨p, ws, rfl, e1, r1⟩ := r
      exact ⟨_, call_tuple_of, p, ws, rfl, .inr ⟨SqT.of (sub _ _ e1), hQ _ _ (.old (fun _ z => by cases z) r')⟩⟩
    · cases h
  case sorted =>
    split at h
    · rename_i ds
      split at h
      · rename_i h64
        obtain ⟨v, rfl, r⟩ := reps1 hx
        rw [rep_lst] at r
        obtain ⟨p, ws, rfl, e1, r1⟩ := r
        cases hn : intsOf ds with
        | none => rw [hn] at h; cases h
        | some ns =>
          rw [hn] at h
          cases h
          have hl := r1.length
          have e := r1.ints hn
          subst e
          rw [List.length_map] at hl
          refine ⟨_, cr_sorted, p, ns, rfl, SqL.of (sub _ _ e1), by omega, fun ns' q h1 h2 hq => ?_⟩
          have e2 := sortI_eq h1 h2
          subst e2
          exact hQ _ _ (.lst q hq (reps_ints W S _) (by rw [List.length_map, h1.length_eq]; exact Nat.le_trans (Nat.le_of_lt (by omega : ns.length < 64)) (by decide)))
      · cases h
    · cases h
  case all =>
    split at h
    · rename_i ds
      obtain ⟨v, rfl, r⟩ := reps1 hx
      rw [rep_lst] at r
      obtain ⟨p, ws, rfl, e1, r1⟩ := r
      cases hn : blsOf ds with
      | none => rw [hn] at h; cases h
      | some bs =>
        rw [hn] at h
        cases h
        have e := r1.bls hn
        subst e
        exact ⟨_, cr_all hc, p, bs, rfl, SqL.of (sub _ _ e1), hQ _ _ hb⟩
    · cases h
  case repr =>
    split at h
    · rename_i x
      obtain ⟨v, rfl, r⟩ := reps1 hx
      cases hp : toPy x with
      | none => rw [hp] at h; cases h
      | some p =>
        rw [hp] at h
        have h : (if p.showable && !p.hasDict && decide (p.depth ≤ 64) && decide (p.shown.length ≤ sizeLine) then some (D.str p.shown) else none) = some d := h
        split at h
        · rename_i hc2
          cases h
          rw [Bool.and_eq_true, Bool.and_eq_true, Bool.and_eq_true] at hc2
          obtain ⟨⟨⟨c1, c2⟩, c3⟩, c4⟩ := hc2
          have dp := Dp.sub sub _ _ (r.dp hp)
          rw [hK] at dp
          exact ⟨_, cr_repr hgd hu, v, p, rfl, dp, c1, by simpa using c2, of_decide_eq_true c3, of_decide_eq_true c4, hQ _ _ (.old (fun _ z => by cases z) (rep_str.mpr rfl))⟩
        · cases h
    · cases h
end
end VI
/-! VIc: the state of a body, and what keeps it. -/
namespace VI
open PySem PySem.Spec PyProof.Rows L2

/-- sizes of what is tracked -/
def SzO : HO → Prop
  | .lst xs => xs.length ≤ sizeLine
  | .tup xs => xs.length ≤ sizeLine
  | _ => True
def SzH (H : Hp) : Prop := ∀ a o, H a = some o → SzO o
theorem SzH.upd {H : Hp} {p : Addr} {o : HO} (h : SzH H) (z : SzO o) : SzH (L2.upd H p o) := fun a u e => by
  by_cases q : a = p
  · subst q; rw [upd_same] at e; cases e; exact z
  · rw [upd_ne q] at e; exact h a u e
theorem SzH.two {H : Hp} (h : SzH H) : ∀ p vs, H p = some (.lst vs) ∨ H p = some (.tup vs) → vs.length ≤ sizeLine := fun p vs e => by
  rcases e with e | e
  · exact h _ _ e
  · exact h _ _ e

/-- where a body runs: own: the slots whose lists are of its own; S0, H0: what was shared, what stood at the entry; P: the parameters that it may change, with their lists -/
structure Stt where
  W : Wd
  own : List Nat
  S0 : Hp
  H0 : Hp
  P : List (Nat × Addr)
def OwnV (Z : Stt) (S H : Hp) (d : D) (v : V) : Prop := ∃ a ds vs, d = .lst ds ∧ v = .ref a ∧ H a = some (.lst vs) ∧ S a = none ∧ Reps Z.W S ds vs ∧ (Z.H0 a = none ∨ ∃ p ∈ Z.P, p.2 = a)
/-- a new list that nobody else holds -/
def FreshV (Z : Stt) (σ : L2.St) (S H : Hp) (env : Env) (d : D) (v : V) : Prop := ∃ p ds vs, d = .lst ds ∧ v = .ref p ∧ H p = some (.lst vs) ∧ S p = none ∧ Reps Z.W S ds vs ∧ Z.H0 p = none ∧
  ∀ i, i ∈ Z.own → getE env i ≠ none → σ[i]? ≠ some (some (.ref p))
structure Rel (Z : Stt) (σ : L2.St) (S H : Hp) (env : Env) : Prop where
  sub : Sub S H
  s0 : Sub Z.S0 S
  fr : ∀ b o, Z.H0 b = some o → (∀ p ∈ Z.P, p.2 ≠ b) → H b = some o
  gr : ∀ b o, Z.H0 b = some o → S b = Z.S0 b
  sl : ∀ i d, getE env i = some d → ∃ v, σ[i]? = some (some v) ∧ ((i ∈ Z.own → OwnV Z S H d v) ∧ (i ∉ Z.own → Rep Z.W S d v))
  dj : ∀ i j a, i ∈ Z.own → j ∈ Z.own → getE env i ≠ none → getE env j ≠ none → σ[i]? = some (some (.ref a)) → σ[j]? = some (some (.ref a)) → i = j
  pa : ∀ p ∈ Z.P, p.1 ∈ Z.own ∧ σ[p.1]? = some (some (.ref p.2)) ∧ getE env p.1 ≠ none
  ln : σ.length = env.length
  sz : SzH H

section
variable {Z : Stt} {σ : L2.St} {S S' H H' : Hp} {env : Env}
/-- an owned slot's list -/
theorem Rel.owned (R : Rel Z σ S H env) {i : Nat} {d : D} (ho : i ∈ Z.own) (e : getE env i = some d) : ∃ a ds vs, d = .lst ds ∧ σ[i]? = some (some (.ref a)) ∧ H a = some (.lst vs) ∧ S a = none ∧ Reps Z.W S ds vs ∧ (Z.H0 a = none ∨ ∃ p ∈ Z.P, p.2 = a) := by
  obtain ⟨v, h1, h2, _⟩ := R.sl i d e
  obtain ⟨a, ds, vs, rfl, rfl, r⟩ := h2 ho
  exact ⟨a, ds, vs, rfl, h1, r⟩
theorem Rel.ownSome (R : Rel Z σ S H env) {i : Nat} {a : Addr} (ho : i ∈ Z.own) (e : getE env i ≠ none) (h : σ[i]? = some (some (.ref a))) : (∃ vs, H a = some (.lst vs)) ∧ S a = none ∧ (Z.H0 a = none ∨ ∃ p ∈ Z.P, p.2 = a) := by
  cases q : getE env i with
  | none => exact absurd q e
  | some d =>
    obtain ⟨b, ds, vs, _, h1, h2, h3, _, h4⟩ := R.owned ho q
    rw [h] at h1; cases h1
    exact ⟨⟨vs, h2⟩, h3, h4⟩
/-- a heap that holds more, a shared part that holds more, the owned lists as they were -/
theorem Rel.up (R : Rel Z σ S H env) (h1 : Sub S S') (h2 : Sub S' H') (h3 : ∀ b o, H b = some o → H' b = some o) (h4 : ∀ b o, H b = some o → S' b = S b) (h5 : SzH H') : Rel Z σ S' H' env where
  sub := h2
  s0 := R.s0.trans h1
  fr := fun b o e p => h3 b o (R.fr b o e p)
  gr := fun b o e => by
    by_cases q : ∀ p ∈ Z.P, p.2 ≠ b
    · rw [h4 b o (R.fr b o e q)]; exact R.gr b o e
    · obtain ⟨p, hp, rfl⟩ : ∃ p ∈ Z.P, p.2 = b := by
        refine Classical.byContradiction fun z => q fun p hp e => z ⟨p, hp, e⟩
      obtain ⟨a1, a2, a3⟩ := R.pa p hp
      obtain ⟨⟨vs, e1⟩, _⟩ := R.ownSome a1 a3 a2
      rw [h4 _ _ e1]; exact R.gr _ o e
  sl := fun i d e => by
    obtain ⟨v, e1, e2, e3⟩ := R.sl i d e
    refine ⟨v, e1, fun z => ?_, fun z => (e3 z).mono h1⟩
    obtain ⟨a, ds, vs, x1, x2, x3, x4, x5, x6⟩ := e2 z
    exact ⟨a, ds, vs, x1, x2, h3 _ _ x3, by rw [h4 _ _ x3]; exact x4, x5.mono h1, x6⟩
  dj := R.dj
  pa := R.pa
  ln := R.ln
  sz := h5
/-- a new object -/
theorem Rel.new (R : Rel Z σ S H env) {p : Addr} {o : HO} (h : H p = none) (z : SzO o) : Rel Z σ S (upd H p o) env :=
  R.up (Sub.refl S) (R.sub.trans (Sub.upd h)) (Sub.upd h) (fun _ _ _ => rfl) (R.sz.upd z)
/-- .. that is shared -/
theorem Rel.both (R : Rel Z σ S H env) {p : Addr} {o : HO} (h : H p = none) (z : SzO o) : Rel Z σ (upd S p o) (upd H p o) env :=
  R.up (Sub.upd (R.sub.none h)) R.sub.upd2 (Sub.upd h) (fun b u e => upd_ne (ne_of_none e h)) (R.sz.upd z)
/-- a new list becomes a shared one -/
theorem Rel.give (R : Rel Z σ S H env) {d : D} {v : V} (f : FreshV Z σ S H env d v) : ∃ S', Sub S S' ∧ Rel Z σ S' H env ∧ Rep Z.W S' d v := by
  obtain ⟨p, ds, vs, rfl, rfl, e1, e2, r, e3, e4⟩ := f
  have hs : Sub S (upd S p (.lst vs)) := Sub.upd e2
  refine ⟨upd S p (.lst vs), hs, ⟨fun b o e => ?_, R.s0.trans hs, R.fr, fun b o e => ?_, fun i d e => ?_, R.dj, R.pa, R.ln, R.sz⟩, rep_lst.mpr ⟨p, vs, rfl, upd_same, r.mono hs⟩⟩
  · by_cases z : b = p
    · subst z; rw [upd_same] at e; rw [← e]; exact e1
    · rw [upd_ne z] at e; exact R.sub b o e
  · rw [upd_ne (ne_of_none e e3)]; exact R.gr b o e
  · obtain ⟨v, x1, x2, x3⟩ := R.sl i d e
    refine ⟨v, x1, fun z => ?_, fun z => (x3 z).mono hs⟩
    obtain ⟨a, ds', vs', rfl, rfl, y3, y4, y5, y6⟩ := x2 z
    have ne : a ≠ p := fun q => by
      subst q
      exact e4 i z (by rw [e]; exact fun q => by cases q) x1
    exact ⟨a, ds', vs', rfl, rfl, y3, by rw [upd_ne ne]; exact y4, y5.mono hs, y6⟩
theorem getE_set {env : Env} {i j : Nat} {d : D} : getE (env.set i (some d)) j = if i = j ∧ i < env.length then some d else getE env j := by
  unfold getE
  by_cases h : i = j
  · subst h
    by_cases hl : i < env.length
    · rw [List.getElem?_set_self hl, if_pos ⟨rfl, hl⟩]; rfl
    · rw [if_neg (fun z => hl z.2), List.getElem?_eq_none (by simpa using hl), List.getElem?_eq_none (by simpa using hl)]
  · rw [List.getElem?_set_ne h, if_neg (fun z => h z.1)]
theorem getE_setN {env : Env} {i j : Nat} : getE (env.set i none) j = if i = j then none else getE env j := by
  unfold getE
  by_cases h : i = j
  · subst h
    rw [if_pos rfl]
    by_cases hl : i < env.length
    · rw [List.getElem?_set_self hl]; rfl
    · rw [List.getElem?_eq_none (by simpa using hl)]; rfl
  · rw [List.getElem?_set_ne h, if_neg h]
theorem getE_lt {env : Env} {i : Nat} {d : D} (h : getE env i = some d) : i < env.length := by
  unfold getE at h
  cases e : env[i]? with
  | none => rw [e] at h; cases h
  | some o => exact (List.getElem?_eq_some_iff.mp e).1
theorem getE_lt' {env : Env} {i : Nat} (h : getE env i ≠ none) : i < env.length := by
  cases e : getE env i with
  | none => exact absurd e h
  | some d => exact getE_lt e
/-- an owned list is changed -/
theorem Rel.mut (R : Rel Z σ S H env) {i : Nat} {a : Addr} {ds : List D} {vs : List V} (ho : i ∈ Z.own) (hd : getE env i ≠ none) (hs : σ[i]? = some (some (.ref a))) (r : Reps Z.W S ds vs) (hz : vs.length ≤ sizeLine) :
    Rel Z σ S (upd H a (.lst vs)) (env.set i (some (.lst ds))) := by
  have hl := getE_lt' hd
  obtain ⟨⟨ws, e1⟩, e2, e3⟩ := R.ownSome ho hd hs
  refine ⟨fun b o e => ?_, R.s0, fun b o e p => ?_, R.gr, fun j d e => ?_, fun j k b hj hk e4 e5 => ?_, fun p hp => ?_, by rw [List.length_set]; exact R.ln, R.sz.upd hz⟩
  · rw [upd_ne (ne_of_none e e2)]; exact R.sub b o e
  · have ne : b ≠ a := by
      rintro rfl
      rcases e3 with z | ⟨q, hq, z⟩
      · rw [z] at e; cases e
      · exact p q hq z
    rw [upd_ne ne]; exact R.fr b o e p
  · rw [getE_set] at e
    split at e
    · rename_i hj
      obtain ⟨rfl, _⟩ := hj
      cases e
      exact ⟨_, hs, fun _ => ⟨a, ds, vs, rfl, rfl, upd_same, e2, r, e3⟩, fun z => absurd ho z⟩
    · rename_i hj
      obtain ⟨v, x1, x2, x3⟩ := R.sl j d e
      refine ⟨v, x1, fun z => ?_, x3⟩
      obtain ⟨b, ds', vs', rfl, rfl, y3, y4, y5, y6⟩ := x2 z
      have ne : b ≠ a := by
        rintro rfl
        exact hj ⟨R.dj i j _ ho z hd (by rw [e]; exact fun q => by cases q) hs x1, hl⟩
      exact ⟨b, ds', vs', rfl, rfl, by rw [upd_ne ne]; exact y3, y4, y5, y6⟩
  · have key : ∀ j, getE (env.set i (some (.lst ds))) j ≠ none → getE env j ≠ none := fun j q => by
      rw [getE_set] at q
      split at q
      · rename_i z; rw [← z.1]; exact hd
      · exact q
    exact R.dj j k b hj hk (key j e4) (key k e5)
  · obtain ⟨x1, x2, x3⟩ := R.pa p hp
    refine ⟨x1, x2, ?_⟩
    rw [getE_set]
    split
    · exact fun q => by cases q
    · exact x3
/-- an owned list is shared from now on -/
theorem Rel.frz (R : Rel Z σ S H env) {i : Nat} (hp : ∀ p ∈ Z.P, p.1 ≠ i) : ∃ S', Sub S S' ∧ Rel { Z with own := Z.own.filter (· ≠ i) } σ S' H env := by
  have mem : ∀ {j}, j ∈ Z.own.filter (· ≠ i) ↔ j ∈ Z.own ∧ j ≠ i := fun {j} => by simp
  by_cases ho : i ∈ Z.own ∧ getE env i ≠ none
  · obtain ⟨ho, hd⟩ := ho
    cases q : getE env i with
    | none => exact absurd q hd
    | some d =>
      obtain ⟨a, ds, vs, rfl, hs, e1, e2, r, e3⟩ := R.owned ho q
      have h0 : Z.H0 a = none := by
        rcases e3 with z | ⟨p, hpp, rfl⟩
        · exact z
        · obtain ⟨y1, y2, y3⟩ := R.pa p hpp
          exact absurd (R.dj p.1 i p.2 y1 ho y3 hd y2 hs) (hp p hpp)
      have hsub : Sub S (upd S a (.lst vs)) := Sub.upd e2
      refine ⟨upd S a (.lst vs), hsub, ⟨fun b o e => ?_, R.s0.trans hsub, R.fr, fun b o e => ?_, fun j d e => ?_, fun j k b hj hk => ?_, fun p hpp => ?_, R.ln, R.sz⟩⟩
      · by_cases z : b = a
        · subst z; rw [upd_same] at e; rw [← e]; exact e1
        · rw [upd_ne z] at e; exact R.sub b o e
      · rw [upd_ne (ne_of_none e h0)]; exact R.gr b o e
      · obtain ⟨v, x1, x2, x3⟩ := R.sl j d e
        refine ⟨v, x1, fun z => ?_, fun z => ?_⟩
        · obtain ⟨z1, z2⟩ := mem.mp z
          obtain ⟨b, ds', vs', rfl, rfl, y3, y4, y5, y6⟩ := x2 z1
          have ne : b ≠ a := by
            rintro rfl
            exact z2 (R.dj j i _ z1 ho (by rw [e]; exact fun q => by cases q) hd x1 hs)
          exact ⟨b, ds', vs', rfl, rfl, y3, by rw [upd_ne ne]; exact y4, y5.mono hsub, y6⟩
        · by_cases hj : j ∈ Z.own
          · have hji : j = i := Classical.byContradiction fun w => z (mem.mpr ⟨hj, w⟩)
            subst hji
            rw [q] at e; cases e
            rw [hs] at x1; cases x1
            exact rep_lst.mpr ⟨a, vs, rfl, upd_same, r.mono hsub⟩
          · exact (x3 hj).mono hsub
      · exact R.dj j k b (mem.mp hj).1 (mem.mp hk).1
      · obtain ⟨x1, x2, x3⟩ := R.pa p hpp
        exact ⟨mem.mpr ⟨x1, hp p hpp⟩, x2, x3⟩
  · refine ⟨S, Sub.refl S, ⟨R.sub, R.s0, R.fr, R.gr, fun j d e => ?_, fun j k b hj hk => R.dj j k b (mem.mp hj).1 (mem.mp hk).1, fun p hpp => ?_, R.ln, R.sz⟩⟩
    · obtain ⟨v, x1, x2, x3⟩ := R.sl j d e
      refine ⟨v, x1, fun z => ?_, fun z => x3 fun w => ?_⟩
      · exact x2 (mem.mp z).1
      · refine z (mem.mpr ⟨w, ?_⟩)
        rintro rfl
        exact ho ⟨w, by rw [e]; exact fun q => by cases q⟩
    · obtain ⟨x1, x2, x3⟩ := R.pa p hpp
      exact ⟨mem.mpr ⟨x1, hp p hpp⟩, x2, x3⟩
/-- a slot is stored: a shared datum -/
theorem Rel.store (R : Rel Z σ S H env) {i : Nat} {d : D} {v : V} (hl : i < env.length) (hp : ∀ p ∈ Z.P, p.1 ≠ i) (r : Rep Z.W S d v) :
    Rel { Z with own := Z.own.filter (· ≠ i) } (σ.set i (some v)) S H (env.set i (some d)) := by
  have mem : ∀ {j}, j ∈ Z.own.filter (· ≠ i) ↔ j ∈ Z.own ∧ j ≠ i := fun {j} => by simp
  have hσ : i < σ.length := by rw [R.ln]; exact hl
  refine ⟨R.sub, R.s0, R.fr, R.gr, fun j e he => ?_, fun j k b hj hk e4 e5 e6 e7 => ?_, fun p hpp => ?_, by rw [List.length_set, List.length_set]; exact R.ln, R.sz⟩
  · rw [getE_set] at he
    split at he
    · rename_i hj
      obtain ⟨rfl, _⟩ := hj
      cases he
      exact ⟨v, List.getElem?_set_self hσ, fun z => absurd rfl (mem.mp z).2, fun _ => r⟩
    · rename_i hj
      have ne : i ≠ j := fun z => hj ⟨z, hl⟩
      obtain ⟨w, x1, x2, x3⟩ := R.sl j e he
      exact ⟨w, by rw [List.getElem?_set_ne ne]; exact x1, fun z => x2 (mem.mp z).1, fun z => x3 fun w => z (mem.mpr ⟨w, ne.symm⟩)⟩
  · obtain ⟨j1, j2⟩ := mem.mp hj
    obtain ⟨k1, k2⟩ := mem.mp hk
    rw [List.getElem?_set_ne j2.symm] at e6
    rw [List.getElem?_set_ne k2.symm] at e7
    rw [getE_set, if_neg (fun z => j2 z.1.symm)] at e4
    rw [getE_set, if_neg (fun z => k2 z.1.symm)] at e5
    exact R.dj j k b j1 k1 e4 e5 e6 e7
  · obtain ⟨x1, x2, x3⟩ := R.pa p hpp
    have ne := hp p hpp
    refine ⟨mem.mpr ⟨x1, ne⟩, by rw [List.getElem?_set_ne ne.symm]; exact x2, ?_⟩
    rw [getE_set, if_neg (fun z => ne z.1.symm)]
    exact x3
/-- a slot is stored: a new list of its own -/
theorem Rel.storeOwn (R : Rel Z σ S H env) {i : Nat} {d : D} {v : V} (hl : i < env.length) (hp : ∀ p ∈ Z.P, p.1 ≠ i) (f : FreshV Z σ S H env d v) :
    Rel { Z with own := i :: Z.own } (σ.set i (some v)) S H (env.set i (some d)) := by
  obtain ⟨p, ds, vs, rfl, rfl, f1, f2, fr, f3, f4⟩ := f
  have hσ : i < σ.length := by rw [R.ln]; exact hl
  refine ⟨R.sub, R.s0, R.fr, R.gr, fun j e he => ?_, fun j k b hj hk e4 e5 e6 e7 => ?_, fun q hpp => ?_, by rw [List.length_set, List.length_set]; exact R.ln, R.sz⟩
  · rw [getE_set] at he
    split at he
    · rename_i hj
      obtain ⟨rfl, _⟩ := hj
      cases he
      exact ⟨_, List.getElem?_set_self hσ, fun z => ⟨p, ds, vs, rfl, rfl, f1, f2, fr, .inl f3⟩, fun z => absurd (List.mem_cons_self ..) z⟩
    · rename_i hj
      have ne : i ≠ j := fun z => hj ⟨z, hl⟩
      obtain ⟨w, x1, x2, x3⟩ := R.sl j e he
      refine ⟨w, by rw [List.getElem?_set_ne ne]; exact x1, fun z => ?_, fun z => x3 fun w => z (List.mem_cons_of_mem _ w)⟩
      rcases List.mem_cons.mp z with z | z
      · exact absurd z.symm ne
      · exact x2 z
  · have other : ∀ j, j ∈ i :: Z.own → j ≠ i → getE (env.set i (some (.lst ds))) j ≠ none → (σ.set i (some (.ref p)))[j]? = some (some (.ref b)) → j ∈ Z.own ∧ getE env j ≠ none ∧ σ[j]? = some (some (.ref b)) := fun j hj ne e e' => by
      rcases List.mem_cons.mp hj with z | z
      · exact absurd z ne
      · rw [getE_set, if_neg (fun z => ne z.1.symm)] at e
        rw [List.getElem?_set_ne ne.symm] at e'
        exact ⟨z, e, e'⟩
    by_cases hji : j = i <;> by_cases hki : k = i
    · rw [hji, hki]
    · subst hji
      rw [List.getElem?_set_self hσ] at e6
      cases e6
      obtain ⟨a1, a2, a3⟩ := other k hk hki e5 e7
      exact absurd a3 (f4 k a1 a2)
    · subst hki
      rw [List.getElem?_set_self hσ] at e7
      cases e7
      obtain ⟨a1, a2, a3⟩ := other j hj hji e4 e6
      exact absurd a3 (f4 j a1 a2)
    · obtain ⟨a1, a2, a3⟩ := other j hj hji e4 e6
      obtain ⟨b1, b2, b3⟩ := other k hk hki e5 e7
      exact R.dj j k b a1 b1 a2 b2 a3 b3
  · obtain ⟨x1, x2, x3⟩ := R.pa q hpp
    have ne := hp q hpp
    refine ⟨List.mem_cons_of_mem _ x1, by rw [List.getElem?_set_ne ne.symm]; exact x2, ?_⟩
    rw [getE_set, if_neg (fun z => ne z.1.symm)]
    exact x3
/-- the marks matter as a set -/
theorem Rel.marks {own' : List Nat} (R : Rel Z σ S H env) (h : ∀ i, i ∈ own' ↔ i ∈ Z.own) : Rel { Z with own := own' } σ S H env where
  sub := R.sub
  s0 := R.s0
  fr := R.fr
  gr := R.gr
  sl := fun i d e => by
    obtain ⟨v, x1, x2, x3⟩ := R.sl i d e
    exact ⟨v, x1, fun z => x2 ((h i).mp z), fun z => x3 fun w => z ((h i).mpr w)⟩
  dj := fun i j a hi hj => R.dj i j a ((h i).mp hi) ((h j).mp hj)
  pa := fun p hp => ⟨(h _).mpr (R.pa p hp).1, (R.pa p hp).2⟩
  ln := R.ln
  sz := R.sz
theorem wipeE_length (env : Env) : ∀ vs : List Nat, (wipeE env vs).length = env.length
  | [] => rfl
  | v :: vs => by unfold wipeE; rw [List.length_set, wipeE_length env vs]
theorem getE_wipe {env : Env} {i : Nat} : ∀ {vs : List Nat}, getE (wipeE env vs) i = if i ∈ vs then none else getE env i
  | [] => by simp [wipeE]
  | v :: vs => by
    unfold wipeE
    rw [getE_setN, getE_wipe (vs := vs)]
    by_cases h : v = i
    · subst h; simp
    · have h' : ¬ i = v := fun z => h z.symm
      simp [h, h']
theorem wipe_out {σ : L2.St} {i : Nat} : ∀ {vs : List Nat}, i ∉ vs → (wipe σ vs)[i]? = σ[i]?
  | [], _ => rfl
  | v :: vs, h => by
    unfold wipe
    have h1 : v ≠ i := fun z => h (by simp [z])
    rw [List.getElem?_set_ne h1]
    exact wipe_out fun z => h (List.mem_cons_of_mem _ z)
/-- within a comprehension: its own names have no value yet -/
theorem Rel.wiped (R : Rel Z σ S H env) {vs : List Nat} (hv : ∀ v ∈ vs, v ∉ Z.own) : Rel Z (wipe σ vs) S H (wipeE env vs) where
  sub := R.sub
  s0 := R.s0
  fr := R.fr
  gr := R.gr
  sl := fun i d e => by
    rw [getE_wipe] at e
    split at e
    · cases e
    · rename_i h
      obtain ⟨v, x1, x2⟩ := R.sl i d e
      exact ⟨v, by rw [wipe_out h]; exact x1, x2⟩
  dj := fun i j a hi hj e1 e2 e3 e4 => by
    have h1 : i ∉ vs := fun z => hv i z hi
    have h2 : j ∉ vs := fun z => hv j z hj
    rw [getE_wipe, if_neg h1] at e1
    rw [getE_wipe, if_neg h2] at e2
    rw [wipe_out h1] at e3
    rw [wipe_out h2] at e4
    exact R.dj i j a hi hj e1 e2 e3 e4
  pa := fun p hp => by
    obtain ⟨x1, x2, x3⟩ := R.pa p hp
    have h1 : p.1 ∉ vs := fun z => hv _ z x1
    exact ⟨x1, by rw [wipe_out h1]; exact x2, by rw [getE_wipe, if_neg h1]; exact x3⟩
  ln := by rw [wipe_length, wipeE_length]; exact R.ln
  sz := R.sz
theorem backE_length (env env' : Env) : ∀ vs : List Nat, (backE env env' vs).length = env'.length
  | [] => rfl
  | v :: vs => by unfold backE; rw [List.length_set, backE_length env env' vs]
theorem getE_setO {env : Env} {i j : Nat} {o : Option D} (hl : i < env.length) : getE (env.set i o) j = if i = j then o else getE env j := by
  unfold getE
  by_cases h : i = j
  · subst h; rw [List.getElem?_set_self hl, if_pos rfl]; rfl
  · rw [List.getElem?_set_ne h, if_neg h]
theorem getE_back {env env' : Env} {i : Nat} (he : env'.length = env.length) : ∀ {vs : List Nat}, getE (backE env env' vs) i = if i ∈ vs then getE env i else getE env' i
  | [] => by simp [backE]
  | v :: vs => by
    unfold backE
    by_cases hl : v < env'.length
    · rw [getE_setO (by rw [backE_length]; exact hl), getE_back he (vs := vs)]
      by_cases h : v = i
      · subst h; simp
      · have h' : ¬ i = v := fun z => h z.symm
        simp [h, h']
    · have e1 : (backE env env' vs).set v (getE env v) = backE env env' vs := List.set_eq_of_length_le (by rw [backE_length]; omega)
      rw [e1, getE_back he (vs := vs)]
      by_cases h : i = v
      · subst h
        have n1 : getE env i = none := by
          cases q : getE env i with
          | none => rfl
          | some d => exact absurd (getE_lt q) (by omega)
        have n2 : getE env' i = none := by
          cases q : getE env' i with
          | none => rfl
          | some d => exact absurd (getE_lt q) (by omega)
        rw [n1, n2]; simp
      · simp [h]
/-- behind a comprehension: the slots of its names as ahead -/
theorem Rel.back {env' : Env} (R : Rel Z σ S H env) (hs : Sub S S') (R' : Rel Z (wipe σ vs) S' H' (wipeE env' vs)) (hv : ∀ v ∈ vs, v ∉ Z.own) : Rel Z σ S' H' (backE env env' vs) := by
  have he : env'.length = env.length := by
    have h1 := R'.ln
    rw [wipe_length, wipeE_length] at h1
    rw [← h1]; exact R.ln
  have key : ∀ i, i ∈ Z.own → getE (backE env env' vs) i = getE (wipeE env' vs) i ∧ σ[i]? = (wipe σ vs)[i]? := fun i hi => by
    have h1 : i ∉ vs := fun z => hv i z hi
    rw [getE_back he, if_neg h1, getE_wipe, if_neg h1, wipe_out h1]
    exact ⟨rfl, rfl⟩
  refine ⟨R'.sub, R'.s0, R'.fr, R'.gr, fun i d e => ?_, fun i j a hi hj e1 e2 e3 e4 => ?_, fun p hp => ?_, by rw [backE_length, he]; exact R.ln, R'.sz⟩
  · rw [getE_back he] at e
    split at e
    · rename_i hi
      obtain ⟨v, x1, _, x3⟩ := R.sl i d e
      exact ⟨v, x1, fun z => absurd z (hv i hi), fun z => (x3 z).mono hs⟩
    · rename_i hi
      obtain ⟨v, x1, x2⟩ := R'.sl i d (by rw [getE_wipe, if_neg hi]; exact e)
      rw [wipe_out hi] at x1
      exact ⟨v, x1, x2⟩
  · rw [(key i hi).1] at e1
    rw [(key j hj).1] at e2
    rw [(key i hi).2] at e3
    rw [(key j hj).2] at e4
    exact R'.dj i j a hi hj e1 e2 e3 e4
  · obtain ⟨x1, x2, x3⟩ := R'.pa p hp
    rw [(key _ x1).1, (key _ x1).2]
    exact ⟨x1, x2, x3⟩
end

/-! ### what a def promises, in data -/
section
variable (W : Wd)
def ownAt (S H : Hp) (d : D) (v : V) : Prop := ∃ a es ws, d = .lst es ∧ v = .ref a ∧ H a = some (.lst ws) ∧ S a = none ∧ Reps W S es ws
def ArgsOk (S H : Hp) : List Bool → List D → List V → Prop
  | [], ds, vs => Reps W S ds vs
  | true :: m, d :: ds, v :: vs => ownAt W S H d v ∧ ArgsOk S H m ds vs
  | false :: m, d :: ds, v :: vs => Rep W S d v ∧ ArgsOk S H m ds vs
  | _ :: _, _, _ => False
def ownAddrs : List Bool → List V → List Addr
  | true :: m, .ref a :: vs => a :: ownAddrs m vs
  | _ :: m, _ :: vs => ownAddrs m vs
  | _, _ => []
def OutsOk (S H : Hp) : List Bool → List D → List V → Prop
  | [], outs, _ => outs = []
  | true :: m, d :: outs, v :: vs => ownAt W S H d v ∧ OutsOk S H m outs vs
  | false :: m, outs, _ :: vs => OutsOk S H m outs vs
  | _ :: _, _, _ => False
end
/-- the classes of exceptions, by numbers -/
structure Xd where
  xa : Nat → Addr
def RetOk (W : Wd) (f : Fn) (S H : Hp) (vs : List V) (d : D) (outs : List D) (v : V) (S' H' : Hp) : Prop :=
  Sub S S' ∧ Sub S' H' ∧ (∀ b o, H b = some o → b ∉ ownAddrs f.msk vs → H' b = some o) ∧ (∀ b o, H b = some o → S' b = S b) ∧ SzH H' ∧ OutsOk W S' H' f.msk outs vs ∧
    ((f.fr = true → ∃ p es ws, d = .lst es ∧ v = .ref p ∧ H p = none ∧ H' p = some (.lst ws) ∧ S' p = none ∧ Reps W S' es ws) ∧ (f.fr = false → Rep W S' d v))
def ExcOk (W : Wd) (xa : Nat → Addr) (E : XK) (S H : Hp) (as : List Addr) (k : Nat) (d : D) : Prop :=
  ∀ v dx S' H', Sub S S' → Sub S' H' → (∀ b o, H b = some o → b ∉ as → H' b = some o) → (∀ b o, H b = some o → S' b = S b) → SzH H' → Rep W S' d v → H' dx = some (.xd [("value", v)]) → H dx = none → W.xo k → E (.ref (xa k)) (some dx) H'
def spD (W : Wd) (xa : Nat → Addr) (f : Fn) (F : List D → COut) : Sp := fun vs H Q E => vs.length = f.np ∧ ∃ S ds, Sub S H ∧ SzH H ∧ ArgsOk W S H f.msk ds vs ∧ (ownAddrs f.msk vs).Nodup ∧
  match F ds with
  | .ret d outs => ∀ v S' H', RetOk W f S H vs d outs v S' H' → Q v H'
  | .exc k d => ExcOk W xa E S H (ownAddrs f.msk vs) k d
  | .bad => False
end VI
/-! VIq: defs where no object is being shown (repr needs it). -/
namespace VI
open PySem PySem.Spec PyProof.Rows L2

/-- as FnOk, wherever nothing is being shown -/
structure FnG (P : Program) (w : World) (K : PySem.W.Frag) (mg : Str → Option Value) (b0 : Heap) (CX : CXT) (k : Nat) (f : Addr) (fd : FuncData) (ps : List Str) (sp : Sp) : Prop where
  len : ∀ xs G R Ex, sp xs G R Ex → xs.length = ps.length
  run : ∀ (Ar : Around) (out : List PySem.Env) (s : Shared) (G : Hp) (args : Args) (us : List Value) (xs : List V) (R : VK) (Ex : XK), Room k Ar → Ar.guards = some [] → Env0 P w K mg b0 Ar out s G →
    BindsTo s fd args (ps.zip us) → Vals xs us → sp xs G R Ex → codeAny (model P w) Ar (.call (.ref f) args) (CR CX out P w G s R Ex) s
section
variable {P : Program} {w : World} {K : PySem.W.Frag} {mg : Str → Option Value} {b0 : Heap}
theorem FnG.of {CX : CXT} {N ps : List Str} {k : Nat} {sp : Sp} {x qual : Str} {params : Arguments} {body : List Stmt} {scope : Scope} {dvs : List V} {kws : List (Str × V)} {f : Addr} {fd : FuncData} (F : FunD K x qual params body scope dvs kws f fd) (S : FnScope N ps scope)
    (len : ∀ xs G R Ex, sp xs G R Ex → xs.length = ps.length)
    (go : ∀ (cdv : Value) (Ar : Around) (out : List PySem.Env) (s : Shared) (G : Hp) (xs : List V) (R : VK) (Ex : XK), Room k (Ar.deeper (envOfC qual scope s.heap.objs.size f cdv)) → (Ar.deeper (envOfC qual scope s.heap.objs.size f cdv)).guards = some [] → sp xs G R Ex →
      ∃ t, PSs (cxOf CX P w K mg b0 N qual scope f cdv Ar out s G Ex) body t ∧ t { nx := fun _ G' => R .non G', rt := R } (L2.start N xs) G) : FnG P w K mg b0 CX (k + 1) f fd ps sp := by
  obtain ⟨oc, od, dV, kV, doc, pm, an, cdv, ct, osl, rfl, lk, hcd, _, _⟩ := F.ex
  refine ⟨len, fun Ar out s G args us xs R Ex room gd e0 bt vr hsp => ?_⟩
  have nx := len _ _ _ _ hsp
  have kin : K.In s.heap := e0.mod.kin.keeps fun a u q => (e0.bs a u q).1
  have nolim : s.heap.NoLimit := e0.mod.nolimit.keeps fun a u q => (e0.bs a u q).1
  refine codeAny_call_function room.depth (kin _ _ lk) rfl S.co S.gen rfl (PySem.W.codeRec_of kin hcd) (bt _ _ _ _ ?_)
  refine wpAny_newFunctionEnv_cells S.kind ?cells fun env he s1 x => ?_
  case cells =>
    rintro ⟨n, v⟩ hy
    rcases S.par n (List.of_mem_zip hy).1 with q | q
    · left; exact q
    · right; exact ⟨q, PySem.W.cellsFrom_some _ _ _ (.inl q)⟩
  subst he
  refine ⟨nolim.keeps x.toInCall.keep, codeAny_func ?_⟩
  obtain ⟨t, ht, hq⟩ := go cdv Ar out s G xs R Ex (room.deeper _) gd hsp
  have I0 := inv_start (CX := CX) (E := Ex) S room.hd e0 nx vr x
  refine wpAny_mono (ht.run [] s1 _ G _ I0 hq) (fun fl s' r => ?_) fun _ _ r => r
  cases fl with
  | ret u =>
    obtain ⟨v, _, G', J, rv, q⟩ := r
    exact ⟨v, G', J.os, J.bare, J.base, J.hok, rv, q⟩
  | next =>
    obtain ⟨_, G', J, q⟩ := r
    exact ⟨.non, G', J.os, J.bare, J.base, J.hok, rfl, q⟩
  | brk => obtain ⟨_, _, _, q⟩ := r; exact q.elim
  | cont => obtain ⟨_, _, _, q⟩ := r; exact q.elim
/-- the end of a law: only the script may be tracked -/
theorem law_go {mb : Str → Option Value} {CX : CXT} {k : Nat} {fa a : Addr} {fd : FuncData} {x : Str} {sp : Sp} {s1 : Shared} {vs : List Value} {ns : List Int} (kin : K.In s1.heap) (hg : s1.heap.Ns mainGlobals mg) (hb : s1.heap.Ns builtinsNs mb) (hbt : ∀ x : Str, x ≠ "__name__" → mb x = bootBuiltins x)
    (nolim : s1.heap.NoLimit) (gens : s1.gens = #[]) (obj : s1.heap.get? a = some { cls := .type "list", data := .seq vs.toArray }) (hints : IntsAre vs ns) (hl : ns.length ≤ sizeLine) (room : Room k callerA)
    (F : ∀ b0 : Heap, K.In b0 → b0.Ns mainGlobals mg → FnG P w K mg b0 CX k fa fd [x] sp) (bt : ∀ (s : Shared) (u : Value), BindsTo s fd ⟨[u], []⟩ [(x, u)])
    (hsp : ∀ G : Hp, Only G → SqL K G a (ns.map V.int) → sp [.ref a] G (fun v _ => v = .bl true) fun _ _ _ => False) (no : ∀ G e s', CX [] G s1 (fun _ _ _ => False) e s' → False) :
    codeAny (model P w) callerA (.call (.ref fa) ⟨[.ref a], []⟩) (fun r s' => r = .ok (.ret (.bool true)) ∧ OldK s1.heap s'.heap ∧ s'.os = s1.os ∧ AllBare s'.gens) s1 := by
  have vr := vals_ints hints
  have nv := hints.length
  have main : ∀ G : Hp, Only G → SqL K G a (ns.map V.int) → HOk P w G s1.heap → (∀ c, G c = none ∨ c = a) → (G a = none ∨ K.lookup a = none) →
      codeAny (model P w) callerA (.call (.ref fa) ⟨[.ref a], []⟩) (fun r s' => r = .ok (.ret (.bool true)) ∧ OldK s1.heap s'.heap ∧ s'.os = s1.os ∧ AllBare s'.gens) s1 := by
    intro G only sq hok one ka
    have away : ∀ {c : Addr} {o : Obj} {es : Array DictEntry} {ep : Nat}, s1.heap.get? c = some o → o.data = .dict es ep → G c = none := by
      intro c o es ep e d
      rcases one c with q | rfl
      · exact q
      · rw [obj] at e
        cases e
        cases d
    have ns0 : ∀ {c : Addr} {m : Str → Option Value}, s1.heap.Ns c m → (hidT s1.heap G).Ns c m := by
      rintro c m ⟨o, es, ep, e, d, r⟩
      exact ⟨o, es, ep, hidT_get e (away e d), d, r⟩
    have kin0 : K.In (hidT s1.heap G) := by
      intro c o e
      refine hidT_get (kin c o e) ?_
      rcases one c with q | rfl
      · exact q
      · rcases ka with q | q
        · exact q
        · rw [q] at e; cases e
    obtain ⟨mc, l1, l2⟩ := nolim
    have e0 : Env0 P w K mg (hidT s1.heap G) callerA [] s1 G :=
      ⟨rfl, ⟨kin0, ns0 hg, ⟨mb, ns0 hb, hbt⟩, mc, ns0 l1, l2⟩, fun _ _ e => of_hidT e, Nat.le_of_eq (hidT_size _ _), trivial, by simp [frs], hok, .of_eq gens⟩
    have go := (F _ kin0 (ns0 hg)).run callerA [] s1 G ⟨[.ref a], []⟩ [.ref a] [.ref a] _ _ room rfl e0 (bt s1 (.ref a)) (.cons rfl .nil) (hsp G only sq)
    refine codeAny_mono go fun r s' q => ?_
    match r, q with
    | .error e, q => exact (no G e s' q).elim
    | .ok .next, q => exact False.elim q
    | .ok .brk, q => exact False.elim q
    | .ok .cont, q => exact False.elim q
    | .ok (.ret u), ⟨v, G', hos, hbare, un, hok2, rv, hv⟩ =>
      have hv : v = .bl true := hv
      subst hv
      have ru : u = Value.bool true := rv
      subst ru
      refine ⟨rfl, OldK.of_keep fun c o e => ?_, hos, hbare⟩
      rcases only c with q | ⟨oo, xs, q⟩
      · exact un.keep c o e q (fun z => nomatch (show c ∈ ([] : List Addr) from z)) (by simp)
      · have q2 := un.frzs c oo _ q
        have a1 := (hok c _ q).1
        have a2 := (hok2 c _ q2).1
        rw [e] at a1
        cases a1
        exact a2
  cases hk : K.lookup a with
  | some o =>
    have e := kin a o hk
    rw [obj] at e
    cases e
    refine main (fun _ => none) (fun _ => .inl rfl) (.inr ⟨_, vs.toArray, _, hk, rfl, rfl, rfl, ?_, by simpa using vr⟩) (fun c u z => by cases (show (none : Option HO) = some u from z)) (fun _ => .inl rfl) (.inl rfl)
    rw [List.size_toArray, nv]
    exact hl
  | none =>
    have look : ∀ {c : Addr} {u : HO}, (if c = a then some (HO.frz { cls := .type "list", data := .seq vs.toArray } (.lst (ns.map V.int))) else none) = some u → c = a ∧ u = HO.frz { cls := .type "list", data := .seq vs.toArray } (.lst (ns.map V.int)) := by
      intro c u z
      split at z
      · cases z; exact ⟨by assumption, rfl⟩
      · cases z
    refine main (fun c => if c = a then some (.frz { cls := .type "list", data := .seq vs.toArray } (.lst (ns.map V.int))) else none) (fun c => ?_) (.inl (.inr ⟨{ cls := .type "list", data := .seq vs.toArray }, if_pos rfl⟩)) (fun c u z => ?_) (fun c => ?_) (.inr hk)
    · by_cases q : c = a
      · right; exact ⟨_, _, if_pos q⟩
      · left; exact if_neg q
    · obtain ⟨rfl, rfl⟩ := look z
      exact ⟨obj, by rw [List.length_map]; exact hl, vs, _, vr, obj⟩
    · by_cases q : c = a
      · exact .inr q
      · exact .inl (if_neg q)
end
/-- a law, from what stands behind the top -/
theorem walk_go {l : PySem.W.OpenLaw} {n k : Nat} {q : Program} {loose : List Str} {XP : (Str → Option Value) → Heap → Prop} {YP : World → Heap → Prop} {d : DefRec} {CX : CXT} {x : Str} (hn : l.most = some n) (hn2 : n ≤ sizeLine) (hdf : d.params.defaults = []) (room : Room k callerA)
    (F : ∀ (w : World) (mg : Str → Option Value) (fa : Addr) (h : Heap), YP w h → h.Ns mainGlobals mg → mg d.name = some (.ref fa) →
      ∃ (K : PySem.W.Frag) (fd : FuncData) (sp : Sp), K.In h ∧ (∀ (s : Shared) (u : Value), BindsTo s fd ⟨[u], []⟩ [(x, u)]) ∧
        (∀ (G : Hp) (a : Addr) (ns : List Int), ns.length ≤ n → Only G → SqL K G a (ns.map V.int) → sp [.ref a] G (fun v _ => v = .bl true) fun _ _ _ => False) ∧
        ∀ b0 : Heap, K.In b0 → b0.Ns mainGlobals mg → FnG l.prog w K mg b0 CX k fa fd [x] sp)
    (no : ∀ (G : Hp) (s : Shared) (e : Value) (s' : Shared), CX [] G s (fun _ _ _ => False) e s' → False) : PySem.W.WalkO q loose XP YP l.row.toRowW d [] (fun f vs => PySem.call f vs) := by
  refine Att.attach_call hn hdf fun w s0 s1 mg mb fa o pm cd doc a vs ns Gr Y ho hd hcd hmg hobj hints hlen hg => ?_
  obtain ⟨K, fd, sp, kin, bt, hsp, hF⟩ := F w mg fa _ Y Gr.T.g hmg
  exact law_go kin Gr.T.g Gr.T.b Gr.T.builtins Gr.T.nolimit hg hobj hints (Nat.le_trans hlen hn2) room hF bt (fun G only sq => hsp G a ns hlen only sq) fun G e s' => no G s1 e s'
end VI
/-! VX: own exception classes over ValueError whose __init__(self, value=None) says super().__init__(value); self.value = value. -/
namespace VI
open PySem PySem.Spec PySem.Calls PyProof.Rows L2

def isSelfV (a : Arguments) : Bool := a.posonlyargs.isEmpty && a.kwonlyargs.isEmpty && a.vararg.isNone && a.kwarg.isNone && decide (a.args.map (·.arg) = [("self" : Str), ("value" : Str)])
/-- the two rows of the __init__ -/
def initB : List Stmt → Bool
  | [.Expr (.Call (.Attribute (.Call (.Name s _) [] [] _) i ap) [.Name v _] [] cp) _, .Assign [.Attribute (.Name z _) f _] (.Name v2 _) _] =>
    decide (s = "super") && decide (i = "__init__") && decide (v = "value") && (ap.endLine == cp.line) && decide (z = "self") && decide (f = "value") && decide (v2 = "value")
  | _ => false
def initSc (sc : Scope) : Bool := decide (sc.kind = .function) && !sc.isCoroutine && !sc.isGenerator && decide (sc.names.lookup ("self" : Str) = some .local) && decide (sc.names.lookup ("value" : Str) = some .local) && decide (sc.names.lookup ("super" : Str) = some .globalImplicit) &&
  decide (sc.names.lookup ("__class__" : Str) = some .free) && sc.names.all fun y => !decide (y.2 = .cell)
/-- what stands of such a class: the class at C, its __init__ at f -/
structure XInit (P : Program) (K : PySem.W.Frag) (C f : Addr) (fd : FuncData) : Prop where
  ox : OexC K C
  find : PySem.W.findIn K (.ref C) "__init__" = some (some (.ref f))
  ty : PySem.W.typeIn K (.ref f) = some (.type "function")
  noV : PySem.W.findIn K (.ref C) "value" = some none
  sup : PySem.W.ks_superIn K C C "__init__" = some (some (.builtin "ValueError.__init__"))
  sVE : PySem.W.subIn K (.ref C) (.type "ValueError") = some true
  tp : PySem.W.nsIn K cStatics "thirdparty.any" = some none
  subC : PySem.W.mroIn K C (.ref C) = some true
  exIn : PySem.W.excInitIn K C He.veBase "ValueError.__new__" = true
  sf : PySem.W.nsIn K mainGlobals "super" = some none
  fn : ∃ (oc : Value) (od : Option Addr) (osl : Array (Option Value)) (qual : Str) (params : Arguments) (body : List Stmt) (scope : Scope) (T : Addr) (kV doc pm : Value) (an : Option Addr) (cda : Addr) (ct : Value) (cc : Addr),
    fd = PySem.W.ksFn "__init__" qual params body scope (.ref T) kV doc pm an (.ref cda) ct cc ∧ K.lookup f = some ⟨oc, od, .func fd, osl⟩ ∧ PySem.W.codeIn K (.ref cda) qual = true ∧ isSelfV params = true ∧ initB body = true ∧ initSc scope = true ∧
    (∃ ccl cdd vs ccs file tf, K.lookup cda = some ⟨ccl, cdd, .fields vs, ccs⟩ ∧ vs[2]? = some (.str file tf) ∧ ((P.main.file : Str) == file) = true) ∧
    (∃ cl cld csl, K.lookup cc = some ⟨cl, cld, .cell (some (.ref C)), csl⟩) ∧
    (∃ o its n, K.lookup T = some o ∧ o.data = .seq its n ∧ its.size = 1)
  top : (P.main.scope.names.lookup ("super" : Str)).isSome = false
section
variable {prog : Program} {w : World} {A : Around} {E : Value → Shared → Prop} {s : Shared} {env : PySem.Env}
theorem eval_super {o : Expr} {ap cp np : Pos} {v : Str} (h : (ap.endLine == cp.line) = true) : eval (.Call (.Attribute o "__init__" ap) [.Name v np] [] cp) env = (do
      let ov ← attributeBase o "__init__" env (eval o env)
      standAt ap.atName
      let (f, first) ← holding [ov] (getMethod ov "__init__" (do return (← importBound o env).getD true))
      callWith cp f first (backTo cp (starEach [.Name v np] env)) []) := by
  rw [arm_eval_Call]
  unfold methodCall
  have hf : methodCallForm ([Expr.Name v np].length + ([] : List Keyword).length) (backTo cp (starEach [.Name v np] env)) (backToKw cp (keywordEach [] env)) = true := rfl
  rw [hf]
  have hp : methodCallPos true o env ap cp = pure cp := by unfold methodCallPos; simp [h]
  rw [hp]
  rfl
end
theorem init_form {body : List Stmt} (h : initB body = true) : ∃ (p1 p2 ap p4 cp p6 p7 p8 p9 p10 : Pos), (ap.endLine == cp.line) = true ∧ body = [.Expr (.Call (.Attribute (.Call (.Name "super" p1) [] [] p2) "__init__" ap) [.Name "value" p4] [] cp) p6, .Assign [.Attribute (.Name "self" p7) "value" p8] (.Name "value" p9) p10] := by
  unfold initB at h
  split at h
  · simp only [Bool.and_eq_true, decide_eq_true_eq] at h
    obtain ⟨⟨⟨⟨⟨⟨rfl, rfl⟩, rfl⟩, h4⟩, rfl⟩, rfl⟩, rfl⟩ := h
    exact ⟨_, _, _, _, _, _, _, _, _, _, h4, rfl⟩
  · cases h
theorem isSelfV_bind {name qual : Str} {params : Arguments} {body : List Stmt} {scope : Scope} {T : Addr} {kV doc pm : Value} {an : Option Addr} {cdv ct : Value} {cc : Addr} {a u : Value} (h : isSelfV params = true) :
    ∃ k, bindArgs (PySem.W.ksFn name qual params body scope (.ref T) kV doc pm an cdv ct cc) ⟨[a, u], []⟩ = seqItems? (.ref T) >>= k ∧ ∀ its : Array Value, its.size = 1 → k (some its) = pure [(("self" : Str), a), (("value" : Str), u)] := by
  obtain ⟨po, ar, va, ko, kd, kw, df⟩ := params
  unfold isSelfV at h
  simp only [Bool.and_eq_true, List.isEmpty_iff, Option.isNone_iff_eq_none, decide_eq_true_eq] at h
  obtain ⟨⟨⟨⟨rfl, rfl⟩, rfl⟩, rfl⟩, h5⟩ := h
  match ar, h5 with
  | [⟨n1, t1, q1⟩, ⟨n2, t2, q2⟩], h5 =>
    obtain ⟨rfl, rfl⟩ : n1 = ("self" : Str) ∧ n2 = ("value" : Str) := by simpa using h5
    unfold bindArgs PySem.W.ksFn PySem.W.fnX
    simp only [List.forIn_nil, pure_bind, List.map_nil, List.nil_append, List.append_nil]
    refine ⟨_, rfl, fun its hz => ?_⟩
    match its, hz with
    | ⟨[d]⟩, _ => rfl
section
variable {P : Program} {w : World} {K : PySem.W.Frag} {mg : Str → Option Value} {b0 : Heap}
/-- the concrete run of such an __init__ -/
theorem init_run {C f a : Addr} {fd : FuncData} {u : Value} {args : Args} {A : Around} {s : Shared} {t1 : Addr} {R : Result → Shared → Prop} (X : XInit P K C f fd) (hbind : BindsTo s fd args [(("self" : Str), .ref a), (("value" : Str), u)]) (md : Mod K mg b0) (bk : ∀ b o, b0.get? b = some o → s.heap.get? b = some o) (bsz : b0.objs.size ≤ s.heap.objs.size) (hroom : A.depth < recursionLimit) (nb : b0.get? a = none)
    (ha : s.heap.get? a = some ({ cls := .ref C, dict := none, data := .fields #[.ref t1, .none, .none, .none, .bool false, .none] } : Obj))
    (h : ∀ h' tk' dx t2, (∀ b o, b ≠ a → s.heap.get? b = some o → h'.get? b = some o) → s.heap.objs.size ≤ dx → dx ≠ a → h'.get? a = some ({ cls := .ref C, dict := some dx, data := .fields #[.ref t2, .none, .none, .none, .bool false, .none] } : Obj) →
      h'.Ns1 dx (fun y => if y = "value" then some u else none) → R (.ok (.ret .none)) ⟨h', s.gens, s.drawn, tk', s.os⟩) :
    codeAny (model P w) A (.call (.ref f) args) R s := by
  obtain ⟨oc, od, osl, qual, params, body, scope, T, kV, doc, pm, an, cda, ct, cc, rfl, lk, hcd, hpar, hbody, hsc, ⟨ccl, cdd, vs, ccs, file, tf, hcode, hvs, hfile⟩, ⟨cl, cld, csl, hcell⟩, ⟨oT, its, n, hT, hTd, hTs⟩⟩ := X.fn
  unfold initSc at hsc
  simp only [Bool.and_eq_true, decide_eq_true_eq, Bool.not_eq_true', List.all_eq_true, decide_eq_false_iff_not] at hsc
  obtain ⟨⟨⟨⟨⟨⟨⟨k1, k2⟩, k3⟩, k4⟩, k5⟩, k6⟩, k7⟩, k8⟩ := hsc
  obtain ⟨p1, p2, p3, p4, p5, p6, p7, p8, p9, p10, hl, rfl⟩ := init_form hbody
  have X0 : K.In b0 := md.kin
  have Xs : K.In s.heap := X0.keeps bk
  obtain ⟨mb, hblt, hboot⟩ := md.blt
  refine ks_codeAny_call_defAt (fd := PySem.W.ksFn "__init__" qual params _ scope (.ref T) kV doc pm an (.ref cda) ct cc) (binds := [("self", .ref a), ("value", u)]) hroom (Xs _ _ lk) rfl (md.nolimit.keeps bk) (PySem.W.codeRec_of Xs hcd) rfl hbind (fun x hx => k8 x hx) ?loc (fun h₀ hns hk₁ => ?_) k2 k3 k1
  case loc =>
    intro x hx
    simp only [List.mem_cons, List.not_mem_nil, or_false] at hx
    rcases hx with rfl | rfl
    · exact k4
    · exact k5
  obtain ⟨ar, hp, har⟩ : ∃ ar, (params.posonlyargs ++ params.args).head? = some ar ∧ ar.arg = ("self" : Str) := by
    unfold isSelfV at hpar
    simp only [Bool.and_eq_true, List.isEmpty_iff, Option.isNone_iff_eq_none, decide_eq_true_eq] at hpar
    obtain ⟨⟨⟨⟨g1, _⟩, _⟩, _⟩, g5⟩ := hpar
    rw [g1]
    cases hpa : params.args with
    | nil => rw [hpa] at g5; cases g5
    | cons x xs => rw [hpa] at g5; exact ⟨x, rfl, (List.cons.inj g5).1⟩
  obtain ⟨B, hB⟩ : ∃ B, B = PySem.W.hideAll s.heap [a] := ⟨_, rfl⟩
  have inB : ∀ b o, b ≠ a → s.heap.get? b = some o → B.get? b = some o := fun b o hb e => by
    rw [hB]
    exact PySem.W.hideAll_get _ e (by simpa using hb)
  have outB : ∀ b o, B.get? b = some o → s.heap.get? b = some o := fun b o e => by
    rw [hB] at e
    exact PySem.W.of_hideAll _ e
  have nB : B.get? a = none := by rw [hB]; exact PySem.W.hideAll_none _ (List.mem_singleton.mpr rfl)
  have b0B : ∀ b o, b0.get? b = some o → B.get? b = some o := fun b o e => inB b o (fun z => by rw [z, nb] at e; cases e) (bk b o e)
  have XB : K.In B := X0.keeps b0B
  have F0 : Fr B s.heap.objs.size h₀ (fun x => ([(("self" : Str), Value.ref a), (("value" : Str), u)] : List (Str × Value)).reverse.lookup x) := ⟨hns, fun b o e => hk₁ b o (outB b o e), by rw [hB]; exact Nat.le_of_eq (PySem.W.hideAll_size _ _)⟩
  have nL : a ≠ s.heap.objs.size := Nat.ne_of_lt (Heap.lt_size ha)
  have N0 : News B s.heap.objs.size h₀ [(a, PySem.W.excObj C t1 none .none)] := fun p hp => by
    rw [List.mem_singleton] at hp
    subst hp
    exact ⟨hk₁ _ _ ha, nL, nB⟩
  have Xh : K.In h₀ := XB.keeps F0.keep
  obtain ⟨cdC, hcD⟩ : ∃ cd, PySem.W.clsIn K C = some cd := by
    have := X.subC
    unfold PySem.W.mroIn at this
    cases e : PySem.W.clsIn K C with
    | none => rw [e] at this; cases this
    | some cd => exact ⟨cd, rfl⟩
  obtain ⟨oC, hC1, hC2⟩ : ∃ oC, h₀.get? C = some oC ∧ oC.data = .cls cdC := by
    unfold PySem.W.clsIn at hcD
    split at hcD
    · rename_i c d cd' sl ho
      cases hcD
      exact ⟨_, Xh _ _ ho, rfl⟩
    · cases hcD
  refine ks_wpAt_execs_cons (ks_wpAt_Expr_any (hi := by unfold interactive; show ((scope.kind == .module) && _) = false; rw [k1]; rfl) (ks_wpAt_MethodCall (he := eval_super hl) (ks_wpAt_super_base (env := PySem.W.ksEnv qual scope s.heap.objs.size f (.ref cda) cc) k6 k7 (by decide) rfl (Xh _ _ lk) rfl hp rfl (Xh _ _ hcode) rfl hvs hfile X.top ?_)))
  refine PySem.W.ks_loadName_global k1 k6 (Calls.loadGlobal_builtin (env := PySem.W.ksEnv qual scope s.heap.objs.size f (.ref cda) cc) ((md.glob.keeps b0B).keeps F0.keep) (PySem.W.mg_none_of X0 md.glob X.sf) ((hblt.keeps b0B).keeps F0.keep) ((hboot _ (by decide +kernel)).trans (by decide +kernel)) ⟨rfl, ?_⟩)
  refine wpAny_loadName_free k1 k7 rfl ⟨_, Xh _ _ hcell, rfl⟩ ?_
  rw [har]
  refine wpAny_loadName_local k1 k4 F0.ns rfl ?_
  refine ks_wpAny_isType_cls hC1 hC2 ⟨rfl, ?_⟩
  refine ks_wpAny_call_super hC1 hC2 (hk₁ _ _ ha) rfl (fun c e => by cases e) (PySem.W.looks_mroIn Xh X.subC) (fun h1 e1 kk1 => ?_)
  obtain ⟨F1, N1, l1⟩ := PySem.W.ks_newsPush (s := ⟨h₀, s.gens, s.drawn, s.toks + 2, s.os⟩) F0 N0 rfl e1 kk1
  have ne1 : ∀ {q : Addr} {h2 : Heap}, (∀ p ∈ [(a, PySem.W.excObj C t1 none .none)], p.1 < q) → a ≠ q := fun hq => Nat.ne_of_lt (hq _ (List.mem_singleton.mpr rfl))
  refine PySem.W.kxs_method (x := a) (C := C) (D := C) (odx := none) ⟨by show builtinType _ = _; rw [builtinType_eq_fast]; kernel_rfl, by first | kernel_rfl | rfl⟩ F1 XB N1 (List.mem_cons_self ..) (PySem.W.InstAt.of_exc0 N1 (List.mem_cons_of_mem _ (List.mem_singleton.mpr rfl))) X.tp X.sup X.sVE (by decide) fun q h2 F2 N2 l2 => ?_
  refine PySem.W.kxs_callWith1 N2 (List.mem_cons_self ..) ?_
  refine Calls.spliced_cons ?_
  refine wpAny_Name (wpAny_loadName_local k1 k5 F2.ns rfl ?_) (by decide)
  refine Calls.spliced_nil ⟨PySem.W.kxs_at N2 (List.mem_cons_self ..), ?_⟩
  refine PySem.W.kxs_call F2 XB N2 PySem.F.excBase_ValueError X.exIn (List.mem_cons_self ..) (.tail ?_ (.tail ?_ (.head ?_))) (by show 1 ≤ sizeLine; decide) fun t2 h3 F3 N3 l3 => ?_
  · exact fun z => absurd (l2 (a, _) (List.mem_cons_of_mem _ (List.mem_singleton.mpr rfl))) (by rw [← z]; exact Nat.lt_irrefl _)
  · exact fun z => absurd (l1 (a, _) (List.mem_singleton.mpr rfl)) (by rw [← z]; exact Nat.lt_irrefl _)
  · exact fun p hp => absurd hp (by simp)
  refine ks_wpAt_execs_cons (ks_wpAt_Assign_Attr (wpAt_of_wpAny (wpAny_Name (wpAny_loadName_local k1 k5 F3.ns rfl (wpAny_Name (wpAny_loadName_local k1 k4 F3.ns rfl ?_) (by decide))) (by decide))))
  have X3 : K.In h3 := XB.keeps F3.keep
  have ha3 : h3.get? a = some ({ cls := .ref C, dict := none, data := .fields #[.ref t2, .none, .none, .none, .bool false, .none] } : Obj) := (N3 (a, _) (by simp)).1
  obtain ⟨nm, q', N', bs, bm, sn, sub, ab, col, dd, k0', k1', k2', k3', k5', hC, hbm⟩ := X.ox.cls
  have hcl : PySem.W.clsIn K C = some { name := nm, bases := bs, mro := .ref C :: bm, ns := N', qualname := q', hasDict := true, slotNames := sn, subclasses := sub, abstract := ab, collection := col, hasDel := false } := by unfold PySem.W.clsIn; rw [hC] <;> rfl
  refine PySem.W.set_plain X3 (ox := { cls := .ref C, dict := none, data := .fields #[.ref t2, .none, .none, .none, .bool false, .none] }) (od := none) ⟨ha3, rfl, rfl, trivial⟩ X.ox.sa ?_
  refine PySem.HandSPX.exc_osa X3 ha3 hcl (show PySem.HandSPX.refsVE (.ref C :: bm) = true from hbm) rfl X.noV (fun h4 tk4 dx kk4 dn dne hx hn => ?_)
  show PySem.wpAt _ _ _ (execs [] _) _ _ _
  refine wpAt_of_wpAny (wpAny_execs_nil (h h4 _ dx t2 (fun b o hb e => kk4 b o hb (F3.keep b o (inB b o hb e))) (Nat.le_trans ?_ dn) dne hx hn))
  exact Nat.le_of_lt (Heap.lt_size (show h3.get? s.heap.objs.size = _ from F3.ns.choose_spec.choose_spec.choose_spec.1))
theorem init_binds {C f : Addr} {fd : FuncData} (X : XInit P K C f fd) : Binds K fd ["self", "value"] [] := by
  obtain ⟨oc, od, osl, qual, params, body, scope, T, kV, doc, pm, an, cda, ct, cc, rfl, lk, hcd, hpar, hbody, hsc, _, _, ⟨oT, its, n, hT, hTd, hTs⟩⟩ := X.fn
  intro s us Xs hl
  rw [List.append_nil] at hl ⊢
  match us, hl with
  | [a, u], _ =>
    obtain ⟨kk, e1, e2⟩ := isSelfV_bind (name := "__init__") (qual := qual) (body := body) (scope := scope) (T := T) (kV := kV) (doc := doc) (pm := pm) (an := an) (cdv := .ref cda) (ct := ct) (cc := cc) (a := a) (u := u) hpar
    refine BindsTo.of_looks fun M => ?_
    rw [e1]
    exact looks_items Xs hT hTd (.of_pure (e2 its hTs))
/-- what such an __init__ promises -/
def spX (C : Addr) : Sp := fun vs H Q _ => ∃ a v, vs = [.ref a, v] ∧ H a = some (exo a C none) ∧ ∀ d, H d = none → d ≠ a → Q .non (upd (upd H d (exd d [("value", v)])) a (exo a C (some d)))
theorem init_ok {C f : Addr} {fd : FuncData} {CX : CXT} (X : XInit P K C f fd) : FnOk P w K mg b0 CX 1 f fd ["self", "value"] (spX C) := by
  refine ⟨fun vs H Q E h => ?_, fun A outer s H args us vs Q E hr e0 hb r h => ?_⟩
  · obtain ⟨a, v, rfl, _⟩ := h
    rfl
  obtain ⟨a, v, rfl, ha, hq⟩ := h
  obtain ⟨ua, uv, rfl, ra, rv⟩ : ∃ ua uv, us = [ua, uv] ∧ RelV (.ref a) ua ∧ RelV v uv := by
    cases r with
    | cons r1 r2 =>
      cases r2 with
      | cons r3 r4 => cases r4; exact ⟨_, _, rfl, r1, r3⟩
  cases ra
  obtain ⟨t1, ho⟩ := exo_at e0.hok ha
  have nb : b0.get? a = none := by
    cases q : b0.get? a with
    | none => rfl
    | some o => have z := (e0.bs a o q).2; rw [ha] at z; cases z
  refine init_run X hb e0.mod (fun b o e => (e0.bs b o e).1) e0.bsz (by have := hr.dp; omega) nb ho fun h' tk' dx t2 k dn dne hx hn => ?_
  have hnd : H dx = none := e0.hok.fresh dn
  have nd : ∀ {b : Addr} {o : Obj}, s.heap.get? b = some o → b ≠ dx := fun {b o} q => Nat.ne_of_lt (Nat.lt_of_lt_of_le (Heap.lt_size q) dn)
  have na : ∀ {b : Addr}, H b = none → b ≠ a := fun {b} n z => by
    rw [z, ha] at n
    cases n
  refine ⟨.non, upd (upd H dx (exd dx [("value", v)])) a (exo a C (some dx)), rfl, e0.bare, ?_, fun b o q => ?_, rfl, hq dx hnd dne⟩
  · exact {
    keep := fun b o q n _ _ => k b o (na n) q
    slot := fun b o q n _ _ => ⟨o.slots, k b o (na n) q⟩
    free := fun b o q n _ => by rw [upd_ne (na n), upd_ne (nd q)]; exact n
    there := fun b o q _ => by
      by_cases hb : b = a
      · exact ⟨_, by rw [hb]; exact hx⟩
      · exact ⟨o, k b o hb q⟩
    tups := fun b xs q => by rw [upd_ne (at_ne ha q exo_tup), upd_ne (ne_of_none q hnd)]; exact q
    frzs := fun b o v q => by rw [upd_ne (at_ne ha q exo_frz), upd_ne (ne_of_none q hnd)]; exact q
    tbls := fun b ps q => ⟨#[], by rw [upd_ne (at_ne ha q exo_tbl), upd_ne (ne_of_none q hnd), q]; simp⟩ }
  · by_cases hb : b = a
    · subst hb
      rw [upd_same] at q
      cases q
      exact exo_ok hx
    · rw [upd_ne hb] at q
      by_cases hd : b = dx
      · subst hd
        rw [upd_same] at q
        cases q
        exact exd_ok hn (relO_put (fs := []) rv fun g => True.intro)
      · rw [upd_ne hd] at q
        exact (e0.hok b o q).stay (fun c v hc z => k c v (by
            rcases hc with hc | hc
            · rw [hc]
              exact hb
            · exact at_ne ha hc exo_own) z)
          (fun c hc => by rw [upd_ne (at_ne ha hc exo_own), upd_ne (ne_of_none hc hnd)]; exact hc) (fun c xs hc => by rw [upd_ne (at_ne ha hc exo_tup), upd_ne (ne_of_none hc hnd)]; exact hc)
end
/-- C(e), an exception that is being made -/
theorem pmk_init {X : Cx} {x : Str} {C f : Addr} {fd : FuncData} {e : Expr} {te : TE} {p pos : Pos} (T : XInit X.prog X.K C f fd) (hr : Room 2 X.A) (hg : Gl X x) (hm : X.mg x = some (.ref C)) (he : PE X e te) (mono : ∀ σ H Q Q', (∀ b H', Q b H' → Q' b H') → te σ H Q → te σ H Q') (hs : starEach [e] X.env = (false, eval e X.env) :: starEach [] X.env) (hdb : (x == ("__debug__" : Str)) = false) :
    PMk X (.Call (.Name x p) [e] [] pos) (fun σ H Q => te σ H fun v H1 => ∀ d, H1 d = none → Q (.ref C) (some d) (upd H1 d (.xd [("value", v)]))) := by
  have base := pmk_oex (CX := L2.CX X.prog X.w) (p := p) (pos := pos) (dvs := []) (ds := []) T.ox T.find T.ty (init_ok (w := X.w) (mg := X.mg) (b0 := X.base) (CX := L2.CX X.prog X.w) T) hr (init_binds T) .nil (fun _ _ _ _ _ _ _ c => by obtain ⟨_, _, _, _, _, _, _, _, _, _, _, _, z⟩ := c; exact z.elim) hg hm (pa_cons he pa_nil hs) hdb hs rfl
  intro pins s σ H Q I h
  refine base pins s σ H Q I ?_
  have h : te σ H fun v H1 => ∀ d, H1 d = none → Q (.ref C) (some d) (upd H1 d (.xd [("value", v)])) := h
  refine mono σ H _ _ (fun v H1 hv => ?_) h
  show [v].length ≤ 1000 ∧ ∀ a, H1 a = none → spX C [.ref a, v] (upd H1 a (exo a C none)) _ _
  refine ⟨by show 1 ≤ 1000; decide, fun a ha => ⟨a, v, rfl, upd_same, fun d hd hda => ⟨rfl, d, [("value", v)], upd_same, ?_, ?_, ?_⟩⟩⟩
  · rw [upd_ne hda, upd_same]
  · rw [upd_ne hda] at hd; exact hd
  · rw [upd_ne hda] at hd
    have e : upd (del (upd (upd (upd H1 a (exo a C none)) d (exd d [("value", v)])) a (exo a C (some d))) a) d (.xd [("value", v)]) = upd H1 d (.xd [("value", v)]) := by
      funext b
      by_cases hb : b = d
      · rw [hb, upd_same, upd_same]
      · rw [upd_ne hb, upd_ne hb]
        by_cases hb2 : b = a
        · rw [hb2, del_same, ha]
        · rw [del_ne hb2, upd_ne hb2, upd_ne hb, upd_ne hb2]
    rw [e]
    exact hv d hd
end VI
/-! VX2: a caught exception as a value: its class, its field; the clause that keeps it. -/
namespace VI
open PySem PySem.Spec PySem.Calls PyProof.Rows L2

theorem exV_ok {P : Program} {w : World} {H : Hp} {h : Heap} {a C dx : Addr} {oe : Obj} {vs : Array Value} (e : h.get? a = some oe) (z : Zc (.ref C) (some dx) oe) (d : oe.data = .fields vs) : ObjOk P w H h a (exV a C dx) :=
  ⟨⟨oe, vs, e, z, d⟩, ⟨oe, e⟩, fun _ _ ⟨o, v, q, r⟩ k => ⟨o, v, k o q, r⟩⟩
theorem exV_at {P : Program} {w : World} {H : Hp} {h : Heap} {a C dx : Addr} (hok : HOk P w H h) (e : H a = some (exV a C dx)) : ∃ (oe : Obj) (vs : Array Value), h.get? a = some oe ∧ Zc (.ref C) (some dx) oe ∧ oe.data = .fields vs := by
  have x : ObjOk P w H h a (.ext fun h => ∃ (oe : Obj) (vs : Array Value), h.get? a = some oe ∧ Zc (.ref C) (some dx) oe ∧ oe.data = .fields vs) := hok a _ e
  exact x.1
theorem xd_at {P : Program} {w : World} {H : Hp} {h : Heap} {dx : Addr} {fs : List (Str × V)} (hok : HOk P w H h) (e : H dx = some (.xd fs)) : ∃ mA, h.Ns1 dx mA ∧ ∀ f, RelO (fs.lookup f) (mA f) := hok dx _ e
/-- the instance, its dict's object -/
theorem exV_inst {P : Program} {w : World} {H : Hp} {h : Heap} {a C dx : Addr} {fs : List (Str × V)} (hok : HOk P w H h) (e : H a = some (exV a C dx)) (ed : H dx = some (.xd fs)) : ∃ oe od, PySem.W.InstAt h a oe C (some od) ∧ ∀ n v, fs.lookup n = some v → ∃ u, PySem.W.lookIn n od = some (some u) ∧ RelV v u := by
  obtain ⟨oe, vs, h1, hz, hd⟩ := exV_at hok e
  obtain ⟨mA, hns, hr⟩ := xd_at hok ed
  obtain ⟨od, ho, hl⟩ := lookIn_ns hns
  refine ⟨oe, od, ⟨h1, hz.1, by unfold PySem.W.notCls; rw [hd] <;> rfl, by rw [hz.2]; exact ho⟩, fun n v hn => ?_⟩
  obtain ⟨u, hu, ru⟩ := RelO.some_of (v := v) (o := mA n) (by rw [← hn]; exact hr n)
  exact ⟨u, by rw [hl, hu], ru⟩
end VI
namespace VI
open PySem PySem.Spec PySem.Calls PyProof.Rows
open PySem.W
section
variable {prog : Program} {w : World} {A : Around} {E : Value → Shared → Prop} {s : Shared} {K : Frag} {x D : Addr} {ox : Obj} {od : Option Obj}
theorem findObj_data' {C : Addr} {name : Str} {a g : Value} (hc : (clsIn K C).isSome = true) (ha : findIn K (.ref C) name = some (some a)) (hg : specialIn K a "__get__" = some (some g)) (ht : takesIn K a = some true) : findObj K C od name = some (.bind g a) := by
  obtain ⟨cd, hc⟩ := Option.isSome_iff_exists.mp hc
  unfold findObj
  rw [hc, Option.bind_some, ha, Option.bind_some]
  simp [hg, ht]
theorem kin_class' {Q : Option Value → Shared → Prop} (T : L2.ExcC K D) (X : K.In s.heap) (I : InstAt s.heap x ox D od) (h : Q (some (.ref D)) { s with toks := s.toks + 1 }) : wpAny (model prog w) A (getAttr? (.ref x) "__class__") Q E s := by
  have hf : findObj K D od "__class__" = some (.bind (.builtin "getset_descriptor.__get__") (.builtin "object.__class__")) := findObj_data' (by obtain ⟨cd, hc, _⟩ := any_some T.hd; rw [hc]; rfl) T.ha T.hn T.ht
  obtain ⟨hp, g, d, t, os⟩ := s
  have L0 := I.type (M := model prog w)
  have L1 := looks_findIn (M := model prog w) X T.hg
  have L2 := looks_findIn (M := model prog w) X T.hk
  have L3 := looks_find (M := model prog w) X I hf
  have sub : Looks (model prog w) hp (isInstance (.ref x) (.type "BaseException")) true := L0.andThen (looks_subIn X T.hs)
  have hx0 : (false && onTheHeap (Value.builtin "BaseException.__getattribute__")) = false := rfl
  have hx2 : (Value.builtin "BaseException.__getattribute__" == Value.builtin "object.__getattribute__") = false := by decide +kernel
  have hx1 : (onTheHeap (Value.ref D) && Value.builtin "BaseException.__getattribute__" == Value.builtin "object.__getattribute__") = false := by rw [hx2]; rfl
  unfold getAttr? getAttrBy? getAttrBy
  refine wpAny_bind (wpAny_mkText (wpAny_bind (wpAny_attempt (wpAny_holding (wpAny_bind (L0.at (wpAny_bind (L1.at ?_))))))))
  show wpAny _ _ (if (onTheHeap (Value.ref D) && Value.builtin "BaseException.__getattribute__" == Value.builtin "object.__getattribute__") = true then _ else _) _ _ _
  rw [hx1, if_neg Bool.false_ne_true]
  unfold getAttrByItsOwn hookBefore
  refine wpAny_bind ?_
  rw [if_pos (show onTheHeap (Value.ref D) = true from rfl)]
  refine L2.at ?_
  refine wpAny_bind (wpAny_attempt (wpAny_holding ?_))
  unfold callGetattribute
  rw [hx0, if_neg Bool.false_ne_true]
  unfold boundAndCalled
  rw [PySem.F.excAttr_ValueError.ga.bind (.ref x)]
  refine wpAny_bind (wpAny_pure ?_)
  show wpAny _ _ (call (.builtin "BaseException.__getattribute__") [.ref x, .str "__class__" t]) _ _ _
  refine wpAny_call (codeAny_call_builtin PySem.F.excAttr_ValueError.ga.plain PySem.F.entry_bexc_ga ?_)
  refine @check_slot (model prog w) _ _ ⟨hp, g, d, t + 1, os⟩ "BaseException.__getattribute__" "BaseException" "__getattribute__" (.ref x) [.str "__class__" t] [] _ (by decide +kernel) (by decide +kernel) sub (PySem.F.args_bexc_ga (.ref x) (.str "__class__" t)) ?_
  unfold Builtin.«object.__getattribute__»
  refine wpAny_bind (wpAny_of_eq (a := ((Value.ref x : Value), [Value.str "__class__" t])) (by first | rfl | (simp only [slotArgs]; rfl)) ?_)
  refine wpAny_bind (wpAny_pure (wpAny_bind (L0.at (wpAny_bind (L3.at ?_)))))
  show wpAny _ _ (holding [Value.builtin "object.__class__"] (call (.builtin "getset_descriptor.__get__") [.builtin "object.__class__", .ref x, .ref D]) >>= ret) _ _ _
  refine wpAny_bind (wpAny_holding (wpAny_call (class_get (s := ⟨hp, g, d, t + 1, os⟩) (ox := ox) (od := od) X I T.hm ?_)))
  refine wpAny_pure ?_
  show wpAny _ _ (handedOut (.ref D)) _ _ _
  rw [handedOut_of (v := .ref D) rfl]
  first
    | exact wpAny_pure (wpAny_pure h)
    | exact wpAny_pure h
    | exact wpAny_pure (wpAny_bind (wpAny_pure (wpAny_pure h)))
theorem kitx' (T : L2.ExcC K D) : KitX K (.ref x) (.ref D) (fun h => InstAt h x ox D od) where
  ty := fun _ _ _ I => I.type
  it := fun _ _ X _ => by
    obtain ⟨cdD, hcD, _⟩ := any_some T.hd
    unfold clsIn at hcD
    split at hcD
    · rename_i c' d' cd' sl' ho
      intro A' Q' E' s' k q
      unfold isType loadHead
      exact wpAny_bind (wpAny_loadPart (k _ _ (X _ _ ho)) (wpAny_pure q))
    · cases hcD
  ne := fun h tp dd its n sl X htp => by
    obtain ⟨cdD, hcD, _⟩ := any_some T.hd
    refine Bool.eq_false_iff.mpr fun q => ?_
    have e : D = tp := Value.ref.inj (beq_iff_eq.mp q)
    subst e
    unfold clsIn at hcD
    split at hcD
    · rename_i c' d' cd' sl' ho
      have z := (X _ _ ho).symm.trans htp
      cases z
    · cases hcD
  ca := fun X I k => kin_class' T X I k
end
end VI
namespace VI
open PySem PySem.Spec PySem.Calls PyProof.Rows L2
/-- isinstance(e, c), e a caught exception, c an own class -/
def rIsV (K : PySem.W.Frag) : List V → Hp → VK → Prop := fun xs H Q => ∃ (a C D dx : Addr) (fs : List (Str × V)) (b : Bool), xs = [.ref a, .ref D] ∧ H a = some (exV a C dx) ∧ H dx = some (.xd fs) ∧ ExcC K C ∧ PySem.W.kitOne K (.ref C) (.ref D) = some b ∧ Q (.bl b) H
theorem call_isV {X : Cx} : CallR X (.builtin "isinstance") (rIsV X.K) := by
  intro pins s σ H xs us Q I r h
  obtain ⟨a, C, D, dx, fs, b, rfl, ha, hd, T, e, q⟩ := h
  cases r with
  | cons rx rr =>
    cases rr with
    | cons rt rr =>
      cases rr
      cases rx
      cases rt
      obtain ⟨oe, od, J, _⟩ := exV_inst I.hok ha hd
      exact PySem.W.kia_one (kitx' T) I.kIn J e (fun z => nomatch z) fun tk => ⟨.bl b, H, I.kept (t' := tk) fun _ _ z => z, rfl, q⟩
/-- e.value -/
def tXv (K : PySem.W.Frag) (f : Str) (te : TE) : TE := fun σ H Q => te σ H fun x H1 => ∃ (a C dx : Addr) (fs : List (Str × V)) (v : V), x = .ref a ∧ H1 a = some (exV a C dx) ∧ H1 dx = some (.xd fs) ∧ XfC K C ∧ PySem.W.findIn K (.ref C) f = some none ∧ fs.lookup f = some v ∧ Q v H1
theorem pe_xv {X : Cx} {e : Expr} {te : TE} {pos : Pos} {n : Str} (he : PE X e te) (hb : attributeBase e n X.env (eval e X.env) = eval e X.env) : PE X (.Attribute e n pos) (tXv X.K n te) := by
  refine ⟨fun pins s σ H Q I h => ?_⟩
  refine attr_of hb (thn (he.run pins s σ H _ I h) fun u s1 hh => ?_)
  obtain ⟨x, H1, I1, rx, a, C, dx, fs, v, rfl, ha, hd, T, hno, hl, q⟩ := hh
  obtain rfl : u = Value.ref a := rx
  obtain ⟨oe, od, J, hlk⟩ := exV_inst I1.hok ha hd
  obtain ⟨u, hu, ru⟩ := hlk n v hl
  exact HandSPX.exc_get I1.kIn J T.ga T.gg T.exC (PySem.W.findObj_own T.hdC hno rfl hu) (handed_of ru) ⟨v, H1, I1.tok _, ru, q⟩
end VI
namespace VI
open PySem PySem.Spec PySem.Calls PyProof.Rows L2
section
variable {X : Cx} {pins : List (Addr × Obj)} {σ : L2.St} {H : Hp} {s : Shared}
/-- an object that stands, untracked so far, is tracked -/
theorem _root_.L2.Inv.track {a : Addr} {o : HO} (I : Inv X pins σ H s) (na : H a = none) {oa : Obj} {vs : Array Value} (ho : s.heap.get? a = some oa) (hd : oa.data = .fields vs) (n0 : X.s_0.heap.get? a = none) (nL : a ≠ X.env.locals) (np : ∀ p ∈ X.pn ++ pins, p.1 ≠ a)
    (new : ObjOk X.prog X.w (upd H a o) s.heap a o) : Inv X pins σ (upd H a o) s := by
  have ne0 : ∀ b u, X.s_0.heap.get? b = some u → b ≠ a := fun b u e z => by rw [z, n0] at e; cases e
  have neH : ∀ b u, H b = some u → b ≠ a := fun b u e => ne_of_none e na
  refine ⟨I.ok, I.os, I.bare, ⟨I.base.keep, I.base.slot, fun b u e n hx => ?_, I.base.there, fun b xs e => ?_, fun b u v e => ?_, fun b ps e => ?_⟩, I.loc, I.cell, ?_, fun x c e => ?_, fun p hp => ?_, fun b u e => ?_, I.len⟩
  · rw [upd_ne (ne0 b u e)]; exact I.base.free b u e n hx
  · have q := I.base.tups b xs e
    rw [upd_ne (neH b _ q)]; exact q
  · have q := I.base.frzs b u v e
    rw [upd_ne (neH b _ q)]; exact q
  · obtain ⟨m, q⟩ := I.base.tbls b ps e
    exact ⟨m, by rw [upd_ne (neH b _ q)]; exact q⟩
  · rw [upd_ne (Ne.symm nL)]; exact I.free
  · obtain ⟨v, oc, e1, e2⟩ := I.cell x c e
    have : c ≠ a := fun z => by
      rw [z, ho] at e1
      cases e1
      rw [hd] at e2
      cases e2
    rw [upd_ne this]; exact I.freeC x c e
  · obtain ⟨e, n, q⟩ := I.pin p hp
    exact ⟨e, by rw [upd_ne (np p hp)]; exact n, q⟩
  · by_cases hb : b = a
    · subst hb
      rw [upd_same] at e
      cases e
      exact new
    · rw [upd_ne hb] at e
      exact (I.hok b u e).stay (fun _ _ _ q => q) (fun c q => by rw [upd_ne (neH c _ q)]; exact q) fun c xs q => by rw [upd_ne (neH c _ q)]; exact q
end
/-- what the clause 'except x as n: m = n' wishes of an exception of the body: slot i is n's, slot j is m's -/
def wMark (K : PySem.W.Frag) (c : Value) (i j : Nat) (Wout : WX) (D : Ends) : WX := fun cls d σ H =>
  ∃ b, PySem.W.exmOne K cls c = some b ∧ (b = true → ∃ C dx, cls = .ref C ∧ d = some dx ∧ ∀ a, H a = none → D.nx (((σ.set i (some (.ref a))).set j (some (.ref a))).set i none) (upd H a (exV a C dx))) ∧
    (b = false → Wout cls d σ H)
section
variable {X : Cx} {x n m : Str} {c : Value} {i j : Nat} {body : List Stmt} {np pos pos' mp np2 ap : Pos} {tb : WX → TS} {Wout : WX}
theorem ps_try_mark (hs : X.stack = X.env :: X.outer) (hf : X.env.frame = some X.env.locals) (hex : X.ex = []) (hN : X.N.Nodup) (hi : X.N[i]? = some n) (hln : X.env.kindOf n = some .local) (hj : X.N[j]? = some m) (hlm : X.env.kindOf m = some .local) (hij : i ≠ j) (hn1 : (n == ("__debug__" : Str)) = false) (hn2 : (n == ("__classdict__" : Str)) = false) (hc : Names X x c) (tk : Takes X Wout)
    (hb : ∀ (W : WX) (pn : List (Addr × Obj)) (xe : Value → Shared → Prop), Takes (X.tr pn xe) W → PassesOwn (model X.prog X.w) X.A X.env xe → PSs (X.tr pn xe) body (tb W)) :
    PS X (.Try body [.ExceptHandler (some (.Name x np)) (some n) [.Assign [.Name m mp] (.Name n np2) ap] pos'] [] [] pos) (fun D σ H => tb (wMark X.K c i j Wout D) D σ H) := by
  refine ⟨fun pins s σ H D I h => ?_⟩
  have ok := I.ok
  have hfr : X.A.frames = some (X.env :: X.outer) := by rw [ok.frames, hs]
  have hloc : Loc X.env.scope n := .inl hln
  refine wpAny_Try_except ?_
  refine wpAny_mono ((hb (wMark X.K c i j Wout D) (X.pn ++ pins) (fun e s₁ => wpAny (model X.prog X.w) X.A (noteFrame e X.env) (fun _ s₂ => wpAny (model X.prog X.w) X.A (setFlight e none) (fun _ s₃ =>
    wpAny (model X.prog X.w) X.A (handleBy e X.env [.ExceptHandler (some (.Name x np)) (some n) [.Assign [.Name m mp] (.Name n np2) ap] pos']) (SP X pins D) X.xe s₃) X.xe s₂) X.xe s₁) (fun u s' xx => ?_) PassesOwn.looking).run [] s σ H D (I.toTry _) h) (fun f s1 hsp => ?_) (fun e s1 he => he)
  · -- the catch
    obtain ⟨a, B, sI, pins', σ', H', cls, d, rfl, J', nb, up, sky, na, os, ag, b, hb1, hyes, hno⟩ := xx
    have J : Inv X pins σ' H' sI := J'.ofTry ok
    have sky' : Sky B (X.env :: X.outer) a (Zc cls d) X.env.locals s'.heap := by rw [← hs]; exact sky
    show wpAny (model X.prog X.w) X.A (noteFrame (.ref a) X.env) _ _ _
    refine Sky.land Zc.steady hfr hf sky' fun h3 fl3 up3 => ?_
    have J3 : Inv X pins σ' H' { s' with heap := h3 } := J.landed nb fl3.1 (up.trans up3) os ag
    obtain ⟨oe3, vs3, he3, hz3, hd3⟩ := fl3.there
    have notFr : ∀ {h : Heap} {o : Obj} {vs : Array Value}, h.FunFrames B (X.env :: X.outer) → h.get? a = some o → o.data = .fields vs → a ∉ frs (X.env :: X.outer) := fun {h o vs} ff e dd hm => by
      obtain ⟨_, o', e', hnf⟩ := ff.mem hm
      rw [e] at e'; cases e'
      exact hnf _ dd
    have nfr := notFr fl3.2.2.1 he3 hd3
    have nL : a ≠ X.env.locals := fun z => nfr (List.mem_filterMap.mpr ⟨X.env, List.mem_cons_self, by rw [hf, z]⟩)
    have nF : a ∉ X.fs := fun hm => by
      obtain ⟨e, he, q⟩ := List.mem_filterMap.mp hm
      exact nfr (List.mem_filterMap.mpr ⟨e, List.mem_cons_of_mem _ he, q⟩)
    have nB : B.get? a = none := fl3.2.1
    have nI : ∀ o, sI.heap.get? a ≠ some o := fun o e => by
      have z := nb a o e (by rw [hs]; exact nfr)
      rw [nB] at z; cases z
    have n0 : X.s_0.heap.get? a = none := by
      cases e : X.s_0.heap.get? a with
      | none => rfl
      | some o =>
        obtain ⟨o', e'⟩ := J.base.there a o e (by rw [hex]; exact fun z => nomatch z)
        exact absurd e' (nI o')
    have npin : ∀ p ∈ X.pn ++ pins, p.1 ≠ a := fun p hp z => nI p.2 (by rw [← z]; exact (J.pin p hp).1)
    have S3 := J3.suite he3 hd3 na nL nF
    refine wpAny_handleBy_cons (codeAny_handlers_test ?_) (by intro q; cases q)
    have LT : PySem.W.Looks (model X.prog X.w) h3 (typeOf (.ref a)) cls := fun A Q E s k q => wpAny_typeOf_ref (k _ _ he3) (by rw [hz3.1]; exact q)
    have LM := PySem.W.exm_one (M := model X.prog X.w) (J3.kIn) LT hb1
    have test : ∀ {Q : Value → Shared → Prop} {E : Value → Shared → Prop}, Q c { s' with heap := h3 } → wpAny (model X.prog X.w) (X.A.mark (some (.ref a))) (eval (.Name x np) X.env) Q E { s' with heap := h3 } := fun {Q E} q => by
      obtain ⟨hg, hdbg, hm | ⟨hm, hv, hnn⟩⟩ := hc
      · exact ld_glob (X := X.suite a ((a, oe3) :: (X.pn ++ pins))) S3 hg hm q hdbg
      · exact ld_blt (X := X.suite a ((a, oe3) :: (X.pn ++ pins))) S3 hg hm hv q hnn hdbg
    refine test (LM.here ?_)
    cases b with
    | true =>
      obtain ⟨C, dx, rfl, rfl, hq⟩ := hyes rfl
      refine codeAny_handlers_suite_as ?_
      refine HandSPX.lands_againZ fl3 fun h4 fl4 up4 => ?_
      have J4 : Inv X pins σ' H' { s' with heap := h4 } := J.landed nb fl4.1 ((up.trans up3).trans up4) os ag
      obtain ⟨oe4, vs4, he4, hz4, hd4⟩ := fl4.there
      have S4 := J4.suite he4 hd4 na nL nF
      refine store_ok (X := X.suite a ((a, oe4) :: (X.pn ++ pins))) (v := .ref a) S4 hN hi hloc rfl (fun s5 S5 => ?_) (.inr hln)
      have hlen : i < σ'.length := by
        rw [J.len]
        exact (List.getElem?_eq_some_iff.mp hi).1
      have mset : PSs (X.suite a ((a, oe4) :: (X.pn ++ pins))) [.Assign [.Name m mp] (.Name n np2) ap] _ := pss_one (ps_set (X := X.suite a ((a, oe4) :: (X.pn ++ pins))) (i := j) hN hj (.inl hlm) (pe_var (i := i) hi (.inl hln) hn1 hn2) rfl (.inr hlm))
      refine wpAny_mono (mset.run [] s5 _ H' { nx := fun σ6 H6 => σ6 = ((σ'.set i (some (.ref a))).set j (some (.ref a))) ∧ H6 = H' , rt := fun _ _ => False } S5 ⟨.ref a, List.getElem?_set_self hlen, rfl, rfl⟩) (fun f s6 hsp => ?_) (fun _ _ z => False.elim z)
      cases f with
      | next =>
        obtain ⟨σ6, H6, S6, rfl, rfl⟩ := hsp
        obtain ⟨ha6, _⟩ := S6.pin (a, oe4) (List.mem_append_left _ List.mem_cons_self)
        have J6 := S6.unsuite ok
        have J6' := J6.track (o := exV a C dx) na ha6 hd4 n0 nL npin (exV_ok ha6 hz4 hd4)
        exact gone_ok J6' hN hi hln fun s7 J7 => ⟨_, _, J7, hq a na⟩
      | brk =>
        obtain ⟨_, _, _, z⟩ := hsp
        exact z.elim
      | cont =>
        obtain ⟨_, _, _, z⟩ := hsp
        exact z.elim
      | ret u =>
        obtain ⟨_, _, _, _, _, z⟩ := hsp
        exact z.elim
    | false =>
      show wpAny _ X.A (handleBy (.ref a) X.env []) _ _ _
      refine wpAny_handleBy_nil ?_
      obtain ⟨k1, k2, k3, oe, vs, T, oT, ts', he, hz, hd, h1, hr⟩ := id fl3
      unfold PySem.passOn
      refine wpAny_bind (wpAny_field he hd h1 ?_)
      rw [if_neg (show ¬ ((Value.ref T == Value.none) = true) from by simp)]
      have fin : wpAny (model X.prog X.w) X.A (setFlight (.ref a) X.env.frame) (fun _ s4 => wpAny (model X.prog X.w) X.A (throw (.ref a) : Sem Flow) (SP X pins D) X.xe s4) X.xe { s' with heap := h3 } := by
        rw [hf]
        refine HandSPX.setFlight_upZ fl3 fun h4 hh4 up4 => wpAny_throw (tk _ _ ?_)
        exact ⟨a, B, sI, pins, σ', H', cls, d, rfl, J, nb, (up.trans up3).trans up4, .inr (.inr (by rw [hs]; exact hh4)), na, os, ag, hno rfl⟩
      first
        | exact wpAny_bind (wpAny_pure (wpAny_bind fin))
        | exact wpAny_bind fin
  · cases f with
    | next =>
      obtain ⟨σ', H', J', q⟩ := hsp
      exact wpAny_execs_nil ⟨σ', H', J'.ofTry ok, q⟩
    | brk =>
      obtain ⟨σ', H', J', q⟩ := hsp
      exact ⟨σ', H', J'.ofTry ok, q⟩
    | cont =>
      obtain ⟨σ', H', J', q⟩ := hsp
      exact ⟨σ', H', J'.ofTry ok, q⟩
    | ret u =>
      obtain ⟨v, σ', H', J', r, q⟩ := hsp
      exact ⟨v, σ', H', J'.ofTry ok, r, q⟩
end
end VI
/-! VId: contexts, the match of the small language with the text, calls. -/
namespace VI
open PySem PySem.Spec PyProof.Rows L2

/-- a text's names, its table of defs, the forms of its calls with keywords: the def, how many arguments by position, the keywords, where each parameter's value stands -/
structure Cfg where
  N : List Str
  T : List Fn
  kb : List (Nat × Nat × List Str × List Nat)
  ci : List (Str × Int) := []
  cs : List (Str × Str) := []
  xs : List Str := []
  xb : Str := ""
/-- an own class of exceptions -/
structure XAt (P : Program) (K : PySem.W.Frag) (mg : Str → Option Value) (C : Addr) (x : Str) : Prop where
  init : ∃ f fd, XInit P K C f fd
  glo : mg x = some (.ref C)
  ec : ExcC K C
  xf : XfC K C
def visC (sc : Scope) (x : Str) : Bool := match sc.names.lookup x with
  | some .local => true
  | some .cell => true
  | some .free => true
  | _ => false
def locC (sc : Scope) (x : Str) : Bool := match sc.names.lookup x with
  | some .local => true
  | some .cell => true
  | _ => false
def cfC (sc : Scope) (x : Str) : Bool := match sc.names.lookup x with
  | some .cell => true
  | some .free => true
  | _ => false
def glC (sc : Scope) (x : Str) : Bool := match sc.names.lookup x with
  | some .globalImplicit => true
  | _ => false
/-- the built-ins' names that are used -/
def blNames : List Str := ["abs", "int", "max", "min", "len", "sum", "isinstance", "list", "tuple", "bool", "str", "range", "enumerate", "zip", "sorted", "all", "set", "repr"]
def okName (x : Str) : Bool := !(x == ("__debug__" : Str)) && !(x == ("__classdict__" : Str)) && !(decide (x = "__name__"))
/-- values and where each parameter stands -/
structure KB (K : PySem.W.Frag) (fd : FuncData) (ps : List Str) (n : Nat) (ks : List Str) (perm : List Nat) : Prop where
  to : ∀ (s : Shared) (us ws : List Value), K.In s.heap → us.length = n → ws.length = ks.length → ∃ bs, permL perm (us ++ ws) = some bs ∧ BindsTo s fd ⟨us, ks.zip ws⟩ (ps.zip bs)
def FnAt (X : Cx) (W : Wd) (xa : Nat → Addr) (Γ : Cfg) (k : Nat) (g : Nat) (f : Fn) : Prop :=
  ∃ fd ps, FnG X.prog X.w X.K X.mg X.base (L2.CX X.prog X.w) (k + 2) (W.fa g) fd ps (spD W xa f (CF Γ.T k g)) ∧ X.mg f.name = some (.ref (W.fa g)) ∧ PySem.W.keepIn X.K (.ref (W.fa g)) = true ∧ Binds X.K fd ps [] ∧ ps.length = f.np ∧
    ∀ n ks perm, (g, n, ks, perm) ∈ Γ.kb → KB X.K fd ps n ks perm
structure CxOk (X : Cx) (W : Wd) (xa : Nat → Addr) (E : L2.St → XK) (Γ : Cfg) (k : Nat) (sc : Scope) : Prop where
  N : X.N = Γ.N
  nd : X.N.Nodup
  calm : X.calm = true
  vis : ∀ x, visC sc x = true → Vis X.env.scope x
  loc : ∀ x, locC sc x = true → Loc X.env.scope x ∧ (X.fn x = true ∨ X.env.scope.names.lookup x = some .local)
  cf : ∀ x, cfC sc x = true → X.env.scope.names.lookup x = some .cell ∨ X.env.scope.names.lookup x = some .free
  glo : ∀ x, glC sc x = true → Gl X x
  K : W.K = X.K
  fns : ∀ g f, Γ.T[g]? = some f → FnAt X W xa Γ k g f
  pl : ∀ g, W.pl g = true → ∃ f, Γ.T[g]? = some f ∧ f.msk = []
  plc : ∀ g f, Γ.T[g]? = some f → f.msk = [] → W.pl g = true
  room : Room (k + 2) X.A
  tk : Takes X (fun cls d σ H => E σ cls d H)
  xc : W.xc = xa
  xo : ∀ j, W.xo j ↔ j < Γ.xs.length
  xs : ∀ j x, Γ.xs[j]? = some x → XAt X.prog X.K X.mg (xa j) x
  xk : ∀ i j, i < Γ.xs.length → j < Γ.xs.length → PySem.W.kitOne X.K (.ref (xa i)) (.ref (xa j)) = some (i == j)
  xb : Γ.xb ≠ "" → ∃ c, X.mg Γ.xb = some (.ref c) ∧ ∀ j, j < Γ.xs.length → PySem.W.exmOne X.K (.ref (xa j)) (.ref c) = some true
  bl : ∀ x ∈ blNames, X.mg x = none
  ci : ∀ x z, (x, z) ∈ Γ.ci → ∃ t, X.mg x = some (.int z t)
  cs : ∀ x z, (x, z) ∈ Γ.cs → ∃ t, X.mg x = some (.str z t)
  gd : X.A.guards = some []

/-! ### what an expression asks -/
section
variable {α β γ : Type}
/-- how a result must end: whatever comes is as V says, and then Q -/
def Fin (ex : Nat → D → Prop) (Z : Stt) (σ : L2.St) (S : Hp) (V : Hp → Hp → Env → α → β → Prop) (r : Res α) (Q : β → Hp → Prop) : Prop := match r with
  | .ok a env' => ∀ b H' S', Rel Z σ S' H' env' → Sub S S' → V S' H' env' a b → Q b H'
  | .exc k d => ex k d
  | .bad => False
theorem Fin.bind {ex : Nat → D → Prop} {Z : Stt} {σ : L2.St} {S : Hp} {V1 : Hp → Hp → Env → α → β → Prop} {δ : Type} {V2 : Hp → Hp → Env → γ → δ → Prop} {r : Res α} {f : α → Env → Res γ} {Q : δ → Hp → Prop} (h : Fin ex Z σ S V2 (r.bind f) Q) :
    Fin ex Z σ S V1 r (fun b H' => ∃ S' env' a, r = .ok a env' ∧ Rel Z σ S' H' env' ∧ Sub S S' ∧ V1 S' H' env' a b ∧ Fin ex Z σ S' V2 (f a env') Q) := by
  cases r with
  | ok a env' =>
    intro b H' S' R hs v
    refine ⟨S', env', a, rfl, R, hs, v, ?_⟩
    have h : Fin ex Z σ S V2 (f a env') Q := h
    cases e : f a env' with
    | ok c env2 =>
      rw [e] at h
      intro b2 H2 S2 R2 hs2 v2
      exact h b2 H2 S2 R2 (hs.trans hs2) v2
    | exc k d => rw [e] at h; exact h
    | bad => rw [e] at h; exact h
  | exc k d => exact h
  | bad => exact h
theorem Fin.mono {ex : Nat → D → Prop} {Z : Stt} {σ : L2.St} {S S' : Hp} {V : Hp → Hp → Env → α → β → Prop} {r : Res α} {Q : β → Hp → Prop} (h : Fin ex Z σ S V r Q) (hs : Sub S S') : Fin ex Z σ S' V r Q := by
  cases r with
  | ok a env' => exact fun b H' S2 R hs2 v => h b H' S2 R (hs.trans hs2) v
  | exc k d => exact h
  | bad => exact h
theorem Fin.imp {ex : Nat → D → Prop} {Z : Stt} {σ : L2.St} {S : Hp} {V V' : Hp → Hp → Env → α → β → Prop} {r : Res α} {Q Q' : β → Hp → Prop} (h : Fin ex Z σ S V r Q) (hq : ∀ a env' b H' S', r = .ok a env' → Rel Z σ S' H' env' → Sub S S' → V' S' H' env' a b → (∀ b H' S', Rel Z σ S' H' env' → Sub S S' → V S' H' env' a b → Q b H') → Q' b H') : Fin ex Z σ S V' r Q' := by
  cases r with
  | ok a env' => exact fun b H' S2 R hs2 v => hq a env' b H' S2 rfl R hs2 v h
  | exc k d => exact h
  | bad => exact h
end
/-- the value that comes: shared, or (fr) a new list of its own -/
def Vx (Z : Stt) (σ : L2.St) (fr : Bool) : Hp → Hp → Env → D → V → Prop := fun S H env d v => (fr = true → isL d = true → FreshV Z σ S H env d v) ∧ ((fr = true → isL d = false) → Rep Z.W S d v)
/-- the arguments that come: at an owned slot's place the list itself -/
def ARs (W : Wd) (σ : L2.St) (S : Hp) : List (Option Nat) → List D → List V → Prop
  | [], ds, vs => ds = [] ∧ vs = []
  | some i :: os, _ :: ds, v :: vs => σ[i]? = some (some v) ∧ ARs W σ S os ds vs
  | none :: os, d :: ds, v :: vs => Rep W S d v ∧ ARs W σ S os ds vs
  | _ :: _, _, _ => False
def Va (Z : Stt) (σ : L2.St) (os : List (Option Nat)) : Hp → Hp → Env → List D → List V → Prop := fun S _ _ ds vs => ARs Z.W σ S os ds vs
def Vb (Z : Stt) : Hp → Hp → Env → Bool → Bool → Prop := fun _ _ _ a b => a = b
def Vo (Z : Stt) : Hp → Hp → Env → Option Int → Option Int → Prop := fun _ _ _ a b => a = b
/-- exceptions that may be let out -/
def Exs (W : Wd) (xa : Nat → Addr) (E : XK) (Z : Stt) : Nat → D → Prop := fun k d => ExcOk W xa E Z.S0 Z.H0 (Z.P.map (·.2)) k d
section
variable (xa : Nat → Addr) (E : L2.St → XK) (Z : Stt) (C : CT)
def semE (fr : Bool) (e : IE) : TE := fun σ H Q => ∃ S env, Rel Z σ S H env ∧ Fin (Exs Z.W xa (E σ) Z) Z σ S (Vx Z σ fr) (ev C e env) Q
def semT (e : IE) : TT := fun σ H Q => ∃ S env, Rel Z σ S H env ∧ Fin (Exs Z.W xa (E σ) Z) Z σ S (Vb Z) (evb C e env) Q
def semA (es : IEs) : TA := fun σ H Q => ∃ S env, Rel Z σ S H env ∧ Fin (Exs Z.W xa (E σ) Z) Z σ S (Va Z σ es.owns) (evs C es env) Q
def semO (o : IO) : L2.TO := fun σ H Q => ∃ S env, Rel Z σ S H env ∧ Fin (Exs Z.W xa (E σ) Z) Z σ S (Vo Z) (evo C o env) Q
def semC (o : IO) : TT := fun σ H Q => ∃ S env, Rel Z σ S H env ∧ Fin (Exs Z.W xa (E σ) Z) Z σ S (Vb Z) (evc C o env) Q
/-- the items that a walk gives, one behind another -/
structure Walk (W : Wd) (S : Hp) (J : It) (ds : List D) : Prop where
  go : ∀ i H, Sub S H → i < ds.length → J.go i H
  stop : ∀ i H, Sub S H → ds.length ≤ i → J.stop i H
  yld : ∀ i H x H' d, Sub S H → J.yld i H x H' → ds[i]? = some d → (H' = H ∧ Rep W S d x) ∨ ∃ p es ws, H p = none ∧ H' = upd H p (.tup ws) ∧ x = .ref p ∧ d = .tup es ∧ Reps W S es ws ∧ ws.length ≤ 2
def Vi (Z : Stt) : Hp → Hp → Env → List D → It → Prop := fun S _ _ ds J => Walk Z.W S J ds
def semI (it : II) : TI := fun σ H R => ∃ S env, Rel Z σ S H env ∧ Fin (Exs Z.W xa (E σ) Z) Z σ S (Vi Z) (evi C it env) R
end

/-! ### the match with the text -/
def isBase (o : Expr) : Bool := match o with
  | .Call (.Name _ _) [] [] _ => false
  | _ => true
def plainIx (o : Expr) : Bool := match o with
  | .Slice .. => false
  | _ => true
def notStar (o : Expr) : Bool := match o with
  | .Starred .. => false
  | _ => true
def notSet (o : Expr) : Bool := match o with
  | .Set .. => false
  | _ => true
def notLc (o : Expr) : Bool := match o with
  | .ListComp .. => false
  | .SetComp .. => false
  | .DictComp .. => false
  | _ => true
def tyNames : List (Str × String) := [("int", "int"), ("bool", "bool"), ("list", "list"), ("tuple", "tuple"), ("str", "str")]
def biName : BI → Str
  | .abs => "abs"
  | .int => "int"
  | .max => "max"
  | .min => "min"
  | .len => "len"
  | .sum => "sum"
  | .isi => "isinstance"
  | .list => "list"
  | .tuple => "tuple"
  | .bool => "bool"
  | .sorted => "sorted"
  | .all => "all"
  | .repr => "repr"
def smName : SM → Str
  | .join => "join"
  | .split => "split"
  | .endswith => "endswith"
  | .startswith => "startswith"
def slotC (Γ : Cfg) (sc : Scope) (i : Nat) (x : Str) : Bool := decide (Γ.N[i]? = some x) && visC sc x && okName x
/-- which places of the arguments are lists that the def may change -/
def mskOk : List Bool → List (Option Nat) → Bool
  | [], os => os.all (·.isNone)
  | b :: m, o :: os => (b == o.isSome) && mskOk m os
  | _ :: _, [] => false
def ownsOk (own : List Nat) (os : List (Option Nat)) : Bool := (os.filterMap id).all (fun i => decide (i ∈ own)) && decide ((os.filterMap id).Nodup)
def noOwn (os : List (Option Nat)) : Bool := os.all (·.isNone)
def kwNames : List Keyword → Option (List Str)
  | [] => some []
  | ⟨some x, _, _⟩ :: r => (kwNames r).map (x :: ·)
  | ⟨none, _, _⟩ :: _ => none
def nmC (Γ : Cfg) (sc : Scope) (p : Nat × Expr) : Bool := match p.2 with
  | .Name x _ => decide (Γ.N[p.1]? = some x) && locC sc x
  | _ => false
def itC (Γ : Cfg) (sc : Scope) : IT → Expr → Bool
  | .nm i, .Name x _ => decide (Γ.N[i]? = some x) && locC sc x
  | .tp is, .Tuple xs _ _ => decide (is.length = xs.length) && (is.zip xs).all (nmC Γ sc)
  | _, _ => false
def IT.slots : IT → List Nat
  | .nm i => [i]
  | .tp is => is
mutual
def corr (Γ : Cfg) (own : List Nat) (sc : Scope) (fr : Bool) : IE → Expr → Bool
  | .var i, .Name x _ => !fr && !decide (i ∈ own) && slotC Γ sc i x
  | .int z, .Constant (.int z') _ _ => !fr && decide (z = z')
  | .int z, .Name x _ => !fr && glC sc x && okName x && decide ((x, z) ∈ Γ.ci)
  | .str s, .Name x _ => !fr && glC sc x && okName x && decide ((x, s) ∈ Γ.cs)
  | .rev a, .Subscript v (.Slice none none (some (.UnaryOp .USub (.Constant (.int z) _ _) _)) _) _ => decide (z = 1) && corr Γ own sc false a v
  | .lrg a, .Call (.Name n _) [.Call (.Name m _) [x] [] _] [] _ => glC sc n && decide (n = "list") && glC sc m && decide (m = "range") && notStar x && corr Γ own sc false a x
  | .lrg2 a b, .Call (.Name n _) [.Call (.Name m _) [x, y] [] _] [] _ => glC sc n && decide (n = "list") && glC sc m && decide (m = "range") && notStar x && notStar y && corr Γ own sc false a x && corr Γ own sc false b y
  | .bl b, .Constant (.bool b') _ _ => !fr && decide (b = b')
  | .non, .Constant .none _ _ => !fr
  | .str s, .Constant (.str s') _ _ => !fr && decide (s = s')
  | .ty n, .Name x _ => !fr && glC sc x && decide ((x, n) ∈ tyNames)
  | .fn g, .Name x _ => !fr && glC sc x && okName x && (match Γ.T[g]? with
    | some f => decide (f.name = x) && f.msk.isEmpty
    | none => false)
  | .scal e, pe => !fr && corr Γ [] sc false e pe
  | .bin op a b, .BinOp l o r _ => decide (op = o) && corr Γ own sc false a l && corr Γ own sc false b r
  | .neg a, .UnaryOp .USub x _ => !fr && corr Γ own sc false a x
  | .not a, .UnaryOp .Not x _ => !fr && corr Γ own sc false a x
  | .and a b, .BoolOp .And (x :: y :: r) pos => !fr && corr Γ own sc false a x && (match r with
    | [] => corr Γ own sc false b y
    | _ => corr Γ own sc false b (.BoolOp .And (y :: r) pos))
  | .or a b, .BoolOp .Or (x :: y :: r) pos => !fr && corr Γ own sc false a x && (match r with
    | [] => corr Γ own sc false b y
    | _ => corr Γ own sc false b (.BoolOp .Or (y :: r) pos))
  | .ife c a b, .IfExp t x y _ => corr Γ own sc false c t && corr Γ own sc fr a x && corr Γ own sc fr b y
  | .cmp op a b, .Compare l [o] [r] _ => !fr && decide (op = o) && corr Γ own sc false a l && corr Γ own sc false b r && !behindInMarks o r
  | .chn o1 o2 a b c, .Compare l [p1, p2] [r1, r2] _ => !fr && decide (o1 = p1) && decide (o2 = p2) && corr Γ own sc false a l && corr Γ own sc false b r1 && corr Γ own sc false c r2 && !lastMarks [p1, p2] [r1, r2]
  | .lst es, .List xs _ => corrs Γ own sc es xs && noOwn es.owns
  | .tup es, .Tuple xs _ _ => !fr && corrs Γ own sc es xs && noOwn es.owns
  | .idx a b, .Subscript v s _ => !fr && corr Γ own sc false a v && corr Γ own sc false b s && plainIx s
  | .idxo i b, .Subscript (.Name x _) s _ => !fr && decide (i ∈ own) && slotC Γ sc i x && corr Γ own sc false b s && plainIx s
  | .sl a lo hi, .Subscript v (.Slice l u none _) _ => corr Γ own sc false a v && corro Γ own sc lo l && corro Γ own sc hi u
  | .call g es, .Call (.Name x _) (y :: ys) [] _ => glC sc x && okName x && corrs Γ own sc es (y :: ys) && (match Γ.T[g]? with
    | some f => decide (f.name = x) && mskOk f.msk es.owns && ownsOk own es.owns && decide (es.owns.length = f.np) && (!fr || f.fr)
    | none => false)
  | .call g .nil, .Call (.Name x _) [] [] _ => glC sc x && okName x && (match Γ.T[g]? with
    | some f => decide (f.name = x) && f.msk.isEmpty && (!fr || f.fr)
    | none => false)
  | .callk g perm es ks, .Call (.Name x _) ys kws _ => glC sc x && okName x && corrs Γ own sc es ys && corrk Γ own sc ks kws && noOwn es.owns && noOwn ks.owns && (match Γ.T[g]? with
    | some f => decide (f.name = x) && f.msk.isEmpty && (!fr || f.fr) && decide (perm.length = f.np) && !kws.isEmpty && (match kwNames kws with
      | some ns => decide ((g, ys.length, ns, perm) ∈ Γ.kb)
      | none => false)
    | none => false)
  | .callv i es, .Call (.Name x _) (y :: ys) [] _ => !fr && !decide (i ∈ own) && slotC Γ sc i x && corrs Γ own sc es (y :: ys) && noOwn es.owns
  | .bi b es, .Call (.Name x _) (y :: ys) [] _ => glC sc x && decide (x = biName b) && corrs Γ own sc es (y :: ys) && noOwn es.owns
  | .lenset a, .Call (.Name n _) [.Call (.Name m _) [x] [] _] [] _ => !fr && glC sc n && decide (n = "len") && glC sc m && decide (m = "set") && notStar x && corr Γ own sc false a x
  | .sm m a b, .Call (.Attribute o n ap) [y] [] p => !fr && decide (n = smName m) && corr Γ own sc false a o && isBase o && notStar y && corr Γ own sc false b y && (ap.endLine == p.line)
  | .idxof a b, .Call (.Attribute o n ap) [y] [] p => !fr && decide (n = "index") && corr Γ own sc false a o && isBase o && notStar y && corr Γ own sc false b y && (ap.endLine == p.line)
  | .pop i es, .Call (.Attribute (.Name x _) n ap) ys [] p => !fr && decide (n = "pop") && decide (i ∈ own) && slotC Γ sc i x && corrs Γ own sc es ys && noOwn es.owns && (ap.endLine == p.line) && decide (ys.length ≤ 1)
  | .bits a, .Call (.Attribute o n ap) [] [] p => !fr && decide (n = "bit_length") && corr Γ own sc false a o && isBase o && (ap.endLine == p.line)
  | .xval a, .Attribute o n _ => !fr && decide (n = "value") && corr Γ own sc false a o && isBase o
  | .isx a j, .Call (.Name x _) [y, .Name z _] [] _ => !fr && glC sc x && decide (x = "isinstance") && notStar y && corr Γ own sc false a y && glC sc z && okName z && decide (Γ.xs[j]? = some z)
  | .lc vs tg it c e, .ListComp elt [⟨t, iter, ifs, k⟩] scope _ => decide (k = 0) && vs.all (fun v => !decide (v ∈ own)) && blkC Γ.N sc scope (vs.filterMap fun v => (Γ.N[v]?).map fun x => (x, v)) && decide ((vs.filterMap fun v => (Γ.N[v]?).map fun x => (x, v)).map (·.2) = vs) &&
      corri Γ own sc it t iter && notSet iter && itC Γ scope tg t && tg.slots.all (fun i => decide (i ∈ vs)) && corrc Γ own scope c ifs && corr Γ own scope false e elt
  | _, _ => false
def corrs (Γ : Cfg) (own : List Nat) (sc : Scope) : IEs → List Expr → Bool
  | .nil, [] => true
  | .cons e es, x :: xs => notStar x && (match e, x with
    | .own i, .Name n _ => decide (i ∈ own) && slotC Γ sc i n
    | e, x => corr Γ own sc false e x) && corrs Γ own sc es xs
  | _, _ => false
def corrk (Γ : Cfg) (own : List Nat) (sc : Scope) : IEs → List Keyword → Bool
  | .nil, [] => true
  | .cons e es, ⟨_, x, _⟩ :: xs => corr Γ own sc false e x && corrk Γ own sc es xs
  | _, _ => false
def corro (Γ : Cfg) (own : List Nat) (sc : Scope) : IO → Option Expr → Bool
  | .none, none => true
  | .some e, some x => corr Γ own sc false e x
  | _, _ => false
def corrc (Γ : Cfg) (own : List Nat) (sc : Scope) : IO → List Expr → Bool
  | .none, [] => true
  | .some e, [x] => corr Γ own sc false e x
  | _, _ => false
def corri (Γ : Cfg) (own : List Nat) (sc : Scope) : II → Expr → Expr → Bool
  | .val e, _, x => corr Γ own sc false e x
  | .rng e, _, .Call (.Name n _) [x] [] _ => glC sc n && decide (n = "range") && notStar x && corr Γ own sc false e x
  | .rng2 a b, _, .Call (.Name n _) [x, y] [] _ => glC sc n && decide (n = "range") && notStar x && notStar y && corr Γ own sc false a x && corr Γ own sc false b y
  | .enum e, .Tuple _ _ _, .Call (.Name n _) [x] [] _ => glC sc n && decide (n = "enumerate") && notStar x && corr Γ own sc false e x
  | .zip a b, .Tuple _ _ _, .Call (.Name n _) [x, y] [] _ => glC sc n && decide (n = "zip") && notStar x && notStar y && corr Γ own sc false a x && corr Γ own sc false b y
  | _, _, _ => false
end

/-! ### arguments and calls -/
section
variable {Z : Stt} {σ : L2.St} {S S' H H' : Hp} {env : Env} {W : Wd}
theorem ARs.mono (h : Sub S S') : ∀ {os : List (Option Nat)} {ds : List D} {vs : List V}, ARs W σ S os ds vs → ARs W σ S' os ds vs
  | [], _, _, r => r
  | some i :: os, d :: ds, v :: vs, r => by unfold ARs at r ⊢; exact ⟨r.1, ARs.mono h r.2⟩
  | none :: os, d :: ds, v :: vs, r => by unfold ARs at r ⊢; exact ⟨r.1.mono h, ARs.mono h r.2⟩
  | some i :: os, [], _, r => by unfold ARs at r; exact r.elim
  | none :: os, [], _, r => by unfold ARs at r; exact r.elim
  | some i :: os, d :: ds, [], r => by unfold ARs at r; exact r.elim
  | none :: os, d :: ds, [], r => by unfold ARs at r; exact r.elim
theorem ARs.len : ∀ {os : List (Option Nat)} {ds : List D} {vs : List V}, ARs W σ S os ds vs → os.length = vs.length ∧ ds.length = vs.length
  | [], _, _, r => by unfold ARs at r; obtain ⟨rfl, rfl⟩ := r; exact ⟨rfl, rfl⟩
  | some i :: os, d :: ds, v :: vs, r => by unfold ARs at r; have := r.2.len; simp [this]
  | none :: os, d :: ds, v :: vs, r => by unfold ARs at r; have := r.2.len; simp [this]
  | some i :: os, [], _, r => by unfold ARs at r; exact r.elim
  | none :: os, [], _, r => by unfold ARs at r; exact r.elim
  | some i :: os, d :: ds, [], r => by unfold ARs at r; exact r.elim
  | none :: os, d :: ds, [], r => by unfold ARs at r; exact r.elim
theorem ARs.none : ∀ {os : List (Option Nat)} {ds : List D} {vs : List V}, ARs W σ S os ds vs → noOwn os = true → Reps W S ds vs
  | [], _, _, r, _ => by unfold ARs at r; obtain ⟨rfl, rfl⟩ := r; exact reps_nil.mpr rfl
  | some i :: os, _, _, _, h => by unfold noOwn at h; simp at h
  | .none :: os, d :: ds, v :: vs, r, h => by
    unfold ARs at r
    unfold noOwn at h
    rw [List.all_cons, Bool.and_eq_true] at h
    exact reps_cons.mpr ⟨v, vs, rfl, r.1, r.2.none h.2⟩
  | .none :: os, [], _, r, _ => by unfold ARs at r; exact r.elim
  | .none :: os, d :: ds, [], r, _ => by unfold ARs at r; exact r.elim
theorem ars_of : ∀ {ds : List D} {vs : List V}, Reps W S ds vs → ARs W σ S (ds.map fun _ => (none : Option Nat)) ds vs
  | [], _, r => by rw [reps_nil] at r; subst r; exact ⟨rfl, rfl⟩
  | d :: ds, _, r => by
    rw [reps_cons] at r
    obtain ⟨v, q, rfl, x, y⟩ := r
    exact ⟨x, ars_of y⟩
theorem argsAt_none : ∀ {os : List (Option Nat)} {ds : List D}, noOwn os = true → os.length = ds.length → argsAt os ds env = some ds
  | [], [], _, _ => by unfold argsAt; rfl
  | some i :: os, _, h, _ => by unfold noOwn at h; simp at h
  | none :: os, d :: ds, h, hl => by
    unfold noOwn at h
    rw [List.all_cons, Bool.and_eq_true] at h
    unfold argsAt
    rw [argsAt_none h.2 (by simpa using hl)]
    rfl
theorem outsAt_none : ∀ {os : List (Option Nat)} {outs : List D} {env' : Env}, noOwn os = true → outsAt os outs env = some env' → env' = env
  | [], [], _, _, e => by unfold outsAt at e; exact (Option.some.inj e).symm
  | [], _ :: _, _, _, e => by unfold outsAt at e; cases e
  | some i :: os, _, _, h, _ => by unfold noOwn at h; simp at h
  | none :: os, outs, env', h, e => by
    unfold noOwn at h
    rw [List.all_cons, Bool.and_eq_true] at h
    unfold outsAt at e
    exact outsAt_none h.2 e
/-- what a callee asks of its arguments -/
theorem args_ok (R : Rel Z σ S H env) : ∀ {msk : List Bool} {os : List (Option Nat)} {ds args : List D} {vs : List V}, mskOk msk os = true → (∀ i ∈ os.filterMap id, i ∈ Z.own) → ARs Z.W σ S os ds vs → argsAt os ds env = some args →
    ArgsOk Z.W S H msk args vs ∧ Paired (fun i a => σ[i]? = some (some (.ref a)) ∧ getE env i ≠ none) (os.filterMap id) (ownAddrs msk vs)
  | [], os, ds, args, vs, hm, _, r, e => by
    have hn : noOwn os = true := hm
    have := r.len
    rw [argsAt_none hn (by omega)] at e
    cases e
    have e0 : os.filterMap id = [] := by
      refine List.filterMap_eq_nil_iff.mpr fun o ho => ?_
      have := List.all_eq_true.mp hn o ho
      cases o with
      | none => rfl
      | some i => simp at this
    rw [e0]
    exact ⟨r.none hn, .nil⟩
  | b :: m, [], _, _, _, hm, _, _, _ => by unfold mskOk at hm; cases hm
  | b :: m, some i :: os, d :: ds, args, v :: vs, hm, ho, r, e => by
    unfold mskOk at hm
    rw [Bool.and_eq_true] at hm
    have hb : b = true := by simpa using hm.1
    subst hb
    unfold ARs at r
    unfold argsAt at e
    split at e
    · rename_i d' r' e1 e2
      cases e
      have hi : i ∈ Z.own := ho i (by simp)
      obtain ⟨a, es, ws, rfl, h1, h2, h3, h4, _⟩ := R.owned hi e1
      rw [r.1] at h1
      cases h1
      obtain ⟨k1, k2⟩ := args_ok R hm.2 (fun j hj => ho j (by simp at hj ⊢; exact .inr hj)) r.2 e2
      refine ⟨⟨⟨a, es, ws, rfl, rfl, h2, h3, h4⟩, k1⟩, ?_⟩
      show Paired _ (i :: os.filterMap id) (a :: ownAddrs m vs)
      exact .cons ⟨r.1, by rw [e1]; exact fun q => by cases q⟩ k2
    · cases e
  | b :: m, none :: os, d :: ds, args, v :: vs, hm, ho, r, e => by
    unfold mskOk at hm
    rw [Bool.and_eq_true] at hm
    have hb : b = false := by simpa using hm.1
    subst hb
    unfold ARs at r
    unfold argsAt at e
    cases e2 : argsAt os ds env with
    | none => rw [e2] at e; cases e
    | some r' =>
      rw [e2] at e
      cases e
      obtain ⟨k1, k2⟩ := args_ok R hm.2 (fun j hj => ho j (by simpa using hj)) r.2 e2
      refine ⟨⟨r.1, k1⟩, ?_⟩
      show Paired _ (os.filterMap id) (ownAddrs (false :: m) (v :: vs))
      have e3 : ownAddrs (false :: m) (v :: vs) = ownAddrs m vs := by cases v <;> rfl
      rw [e3]
      exact k2
  | b :: m, some i :: os, [], _, _, _, _, r, _ => by unfold ARs at r; exact r.elim
  | b :: m, none :: os, [], _, _, _, _, r, _ => by unfold ARs at r; exact r.elim
  | b :: m, some i :: os, d :: ds, _, [], _, _, r, _ => by unfold ARs at r; exact r.elim
  | b :: m, none :: os, d :: ds, _, [], _, _, r, _ => by unfold ARs at r; exact r.elim
theorem Paired.mem_right {α β : Type} {F : α → β → Prop} : ∀ {l₁ : List α} {l₂ : List β} {b : β}, Paired F l₁ l₂ → b ∈ l₂ → ∃ a ∈ l₁, F a b
  | _, _, _, .nil, h => by simp at h
  | _, _, b, .cons r t, h => by
    rcases List.mem_cons.mp h with rfl | h
    · exact ⟨_, List.mem_cons_self .., r⟩
    · obtain ⟨a, h1, h2⟩ := Paired.mem_right t h
      exact ⟨a, List.mem_cons_of_mem _ h1, h2⟩
theorem Paired.left_all {F : Nat → Prop} {G : Nat → Addr → Prop} : ∀ {l₁ : List Nat} {l₂ : List Addr}, Paired (fun i a => G i a ∧ F i) l₁ l₂ → ∀ j ∈ l₁, F j
  | _, _, .nil, j, hj => by simp at hj
  | _, _, .cons r t, j, hj => by
    rcases List.mem_cons.mp hj with h | h
    · rw [h]; exact r.2
    · exact Paired.left_all t j h
theorem own_nodup (R : Rel Z σ S H env) : ∀ {is : List Nat} {as : List Addr}, (∀ i ∈ is, i ∈ Z.own) → is.Nodup → Paired (fun i a => σ[i]? = some (some (.ref a)) ∧ getE env i ≠ none) is as → as.Nodup
  | _, _, _, _, .nil => List.nodup_nil
  | i :: is, a :: as, h, nd, .cons r t => by
    rw [List.nodup_cons] at nd ⊢
    refine ⟨fun hm => ?_, own_nodup R (fun j hj => h j (List.mem_cons_of_mem _ hj)) nd.2 t⟩
    obtain ⟨j, hj, r2⟩ := Paired.mem_right t hm
    have e := R.dj i j a (h i (List.mem_cons_self ..)) (h j (List.mem_cons_of_mem _ hj)) r.2 r2.2 r.1 r2.1
    subst e
    exact nd.1 hj
/-- the owned lists behind a call -/
theorem outs_ok : ∀ {msk : List Bool} {os : List (Option Nat)} {outs : List D} {vs : List V} {env env' : Env}, mskOk msk os = true → os.length = vs.length → (os.filterMap id).Nodup → OutsOk W S' H' msk outs vs →
    Paired (fun i a => σ[i]? = some (some (.ref a)) ∧ i < env.length) (os.filterMap id) (ownAddrs msk vs) → outsAt os outs env = some env' →
    env'.length = env.length ∧ (∀ j, j ∉ os.filterMap id → getE env' j = getE env j) ∧ ∀ j ∈ os.filterMap id, ∃ a d, σ[j]? = some (some (.ref a)) ∧ getE env' j = some d ∧ ownAt W S' H' d (.ref a)
  | [], os, outs, vs, env, env', hm, _, _, ho, hp, e => by
    have hn : noOwn os = true := hm
    have := outsAt_none hn e
    subst this
    have e0 : os.filterMap id = [] := by
      refine List.filterMap_eq_nil_iff.mpr fun o ho => ?_
      have := List.all_eq_true.mp hn o ho
      cases o with
      | none => rfl
      | some i => simp at this
    rw [e0]
    exact ⟨rfl, fun _ _ => rfl, fun j hj => by simp at hj⟩
  | b :: m, [], _, _, _, _, hm, _, _, _, _, _ => by unfold mskOk at hm; cases hm
  | b :: m, some i :: os, outs, v :: vs, env, env', hm, hl, nd, ho, hp, e => by
    unfold mskOk at hm
    rw [Bool.and_eq_true] at hm
    have hb : b = true := by simpa using hm.1
    subst hb
    cases outs with
    | nil => unfold OutsOk at ho; exact ho.elim
    | cons d outs =>
      unfold OutsOk at ho
      unfold outsAt at e
      have nd' : i ∉ os.filterMap id ∧ (os.filterMap id).Nodup := by simpa using nd
      obtain ⟨hd, ho⟩ := ho
      obtain ⟨a, es, ws, rfl, rfl, q⟩ := hd
      have hp' : Paired (fun i a => σ[i]? = some (some (.ref a)) ∧ i < env.length) (i :: os.filterMap id) (a :: ownAddrs m vs) := hp
      cases hp' with
      | cons r t =>
        obtain ⟨k1, k2, k3⟩ := outs_ok (env := env.set i (some (.lst es))) hm.2 (by simpa using hl) nd'.2 ho (Paired.mapP t fun x y z => ⟨z.1, by rw [List.length_set]; exact z.2⟩) e
        rw [List.length_set] at k1
        refine ⟨k1, fun j hj => ?_, fun j hj => ?_⟩
        · have hj' : j ≠ i ∧ j ∉ os.filterMap id := by simpa using hj
          rw [k2 j hj'.2, getE_set, if_neg (fun z => hj'.1 z.1.symm)]
        · have hj' : j = i ∨ j ∈ os.filterMap id := by simpa using hj
          rcases hj' with rfl | hj'
          · refine ⟨a, .lst es, r.1, ?_, a, es, ws, rfl, rfl, q⟩
            rw [k2 j nd'.1, getE_set, if_pos ⟨rfl, r.2⟩]
          · exact k3 j hj'
  | b :: m, none :: os, outs, v :: vs, env, env', hm, hl, nd, ho, hp, e => by
    unfold mskOk at hm
    rw [Bool.and_eq_true] at hm
    have hb : b = false := by simpa using hm.1
    subst hb
    unfold OutsOk at ho
    unfold outsAt at e
    have e3 : ownAddrs (false :: m) (v :: vs) = ownAddrs m vs := by cases v <;> rfl
    rw [e3] at hp
    have e4 : (none :: os).filterMap (id : Option Nat → Option Nat) = os.filterMap id := rfl
    rw [e4] at nd hp ⊢
    exact outs_ok hm.2 (by simpa using hl) nd ho hp e
  | b :: m, some i :: os, _, [], _, _, _, hl, _, _, _, _ => by simp at hl
  | b :: m, none :: os, _, [], _, _, _, hl, _, _, _, _ => by simp at hl
/-- behind a call -/
theorem Rel.after (R : Rel Z σ S H env) {f : Fn} {os : List (Option Nat)} {vs : List V} {d : D} {outs : List D} {v : V} {env' : Env} (ro : RetOk Z.W f S H vs d outs v S' H') (hm : mskOk f.msk os = true) (ho : ∀ i ∈ os.filterMap id, i ∈ Z.own) (nd : (os.filterMap id).Nodup) (hl : os.length = vs.length)
    (hp : Paired (fun i a => σ[i]? = some (some (.ref a)) ∧ getE env i ≠ none) (os.filterMap id) (ownAddrs f.msk vs)) (e : outsAt os outs env = some env') : Rel Z σ S' H' env' := by
  obtain ⟨r1, r2, r3, r4, r5, r6, _⟩ := ro
  obtain ⟨k1, k2, k3⟩ := outs_ok (σ := σ) hm hl nd r6 (Paired.mapP hp fun x y z => ⟨z.1, getE_lt' z.2⟩) e
  have mem : ∀ {a}, a ∈ ownAddrs f.msk vs → ∃ i ∈ os.filterMap id, σ[i]? = some (some (.ref a)) ∧ getE env i ≠ none := fun {a} ha => Paired.mem_right hp ha
  have memO : ∀ {a}, a ∈ ownAddrs f.msk vs → Z.H0 a = none ∨ ∃ p ∈ Z.P, p.2 = a := fun {a} ha => by
    obtain ⟨i, hi, h1, h2⟩ := mem ha
    exact (R.ownSome (ho i hi) h2 h1).2.2
  have ev : ∀ j, getE env' j ≠ none ↔ getE env j ≠ none := fun j => by
    by_cases hj : j ∈ os.filterMap id
    · obtain ⟨a, d', _, h2, _⟩ := k3 j hj
      exact ⟨fun _ => Paired.left_all hp j hj, fun _ q => by rw [h2] at q; cases q⟩
    · rw [k2 j hj]
  refine ⟨r2, R.s0.trans r1, fun b o e1 q => r3 b o (R.fr b o e1 q) fun hm => ?_, fun b o e1 => ?_, fun j d' e1 => ?_, fun i j a hi hj e1 e2 => R.dj i j a hi hj ((ev i).mp e1) ((ev j).mp e2), fun p hpp => ?_, by rw [k1]; exact R.ln, r5⟩
  · rcases memO hm with z | ⟨p, hpp, z⟩
    · rw [z] at e1; cases e1
    · exact q p hpp z
  · by_cases q : ∀ p ∈ Z.P, p.2 ≠ b
    · rw [r4 b o (R.fr b o e1 q)]; exact R.gr b o e1
    · obtain ⟨p, hpp, rfl⟩ : ∃ p ∈ Z.P, p.2 = b := Classical.byContradiction fun z => q fun p hp e => z ⟨p, hp, e⟩
      obtain ⟨a1, a2, a3⟩ := R.pa p hpp
      obtain ⟨⟨ws, e2⟩, _⟩ := R.ownSome a1 a3 a2
      rw [r4 _ _ e2]; exact R.gr _ o e1
  · by_cases hj : j ∈ os.filterMap id
    · obtain ⟨a, d2, h1, h2, b, es, ws, h3, h4, h5, h6, h7⟩ := k3 j hj
      rw [h2] at e1
      cases e1
      cases h4
      refine ⟨_, h1, fun _ => ⟨a, es, ws, h3, rfl, h5, h6, h7, ?_⟩, fun z => absurd (ho j hj) z⟩
      have hne : getE env j ≠ none := (ev j).mp (by rw [h2]; exact fun q => by cases q)
      exact (R.ownSome (ho j hj) hne h1).2.2
    · rw [k2 j hj] at e1
      obtain ⟨w, x1, x2, x3⟩ := R.sl j d' e1
      refine ⟨w, x1, fun z => ?_, fun z => (x3 z).mono r1⟩
      obtain ⟨a, es, ws, y1, rfl, y3, y4, y5, y6⟩ := x2 z
      have na : a ∉ ownAddrs f.msk vs := fun hm => by
        obtain ⟨i, hi, h1, h2⟩ := mem hm
        have := R.dj i j a (ho i hi) z h2 (by rw [e1]; exact fun q => by cases q) h1 x1
        subst this
        exact hj hi
      exact ⟨a, es, ws, y1, rfl, r3 _ _ y3 na, by rw [r4 _ _ y3]; exact y4, y5.mono r1, y6⟩
  · obtain ⟨x1, x2, x3⟩ := R.pa p hpp
    exact ⟨x1, x2, (ev _).mpr x3⟩
/-- no object stood at a free address at the entry -/
theorem Rel.h0 (R : Rel Z σ S H env) {p : Addr} (h : H p = none) : Z.H0 p = none := by
  cases e : Z.H0 p with
  | none => rfl
  | some o =>
    by_cases q : ∀ r ∈ Z.P, r.2 ≠ p
    · rw [R.fr p o e q] at h; cases h
    · obtain ⟨r, hr, rfl⟩ : ∃ r ∈ Z.P, r.2 = p := Classical.byContradiction fun z => q fun p hp e => z ⟨p, hp, e⟩
      obtain ⟨a1, a2, a3⟩ := R.pa r hr
      obtain ⟨⟨ws, e2⟩, _⟩ := R.ownSome a1 a3 a2
      rw [h] at e2; cases e2
theorem Rel.apart (R : Rel Z σ S H env) {p : Addr} (h : H p = none) : ∀ i, i ∈ Z.own → getE env i ≠ none → σ[i]? ≠ some (some (.ref p)) := fun i hi e q => by
  obtain ⟨⟨ws, e2⟩, _⟩ := R.ownSome hi e q
  rw [h] at e2; cases e2
/-- the end of an operation that gives d -/
theorem mk_fin {ex : Nat → D → Prop} {fr : Bool} {d : D} {v : V} {Q : VK} (R : Rel Z σ S H env) (h : Fin ex Z σ S (Vx Z σ fr) (.ok d env) Q) (m : Mk Z.W S H d v H') : Q v H' := by
  have h : ∀ b H' S', Rel Z σ S' H' env → Sub S S' → Vx Z σ fr S' H' env d b → Q b H' := h
  cases m with
  | old n r =>
    refine h v H S R (Sub.refl S) ⟨fun _ z => ?_, fun _ => r⟩
    cases d <;> first | exact absurd rfl (n _) | (unfold isL at z; cases z)
  | @lst ds vs p hp r z =>
    cases fr with
    | true =>
      refine h _ _ S (R.new hp z) (Sub.refl S) ⟨fun _ _ => ⟨p, _, _, rfl, rfl, upd_same, R.sub.none hp, r, R.h0 hp, R.apart hp⟩, fun q => by have q := q rfl; unfold isL at q; cases q⟩
    | false =>
      have hs := Sub.upd (o := .lst vs) (R.sub.none hp)
      exact h _ _ _ (R.both hp z) hs ⟨fun q => (by cases q), fun _ => rep_lst.mpr ⟨p, _, rfl, upd_same, r.mono hs⟩⟩
  | @tup ds vs p hp r z =>
    have hs := Sub.upd (o := .tup vs) (R.sub.none hp)
    exact h _ _ _ (R.both hp z) hs ⟨fun _ q => (by unfold isL at q; cases q), fun _ => rep_tup.mpr ⟨p, _, rfl, upd_same, r.mono hs⟩⟩
/-- a new list may be shared -/
theorem fin_give {ex : Nat → D → Prop} {r : Res D} {Q : VK} (h : Fin ex Z σ S (Vx Z σ false) r Q) : Fin ex Z σ S (Vx Z σ true) r Q := by
  refine h.imp fun d env' b H' S' e R hs v k => ?_
  by_cases hl : isL d = true
  · obtain ⟨S2, s2, R2, rp⟩ := R.give (v.1 rfl hl)
    exact k b H' S2 R2 (hs.trans s2) ⟨fun q => (by cases q), fun _ => rp⟩
  · exact k b H' S' R hs ⟨fun q => (by cases q), fun _ => v.2 fun _ => by simpa using hl⟩
theorem vx_false {d : D} {v : V} (h : Vx Z σ false S H env d v) : Rep Z.W S d v := h.2 fun q => by cases q
theorem vx_of {d : D} {v : V} (h : Rep Z.W S d v) : Vx Z σ false S H env d v := ⟨fun q => (by cases q), fun _ => h⟩
end
end VI
/-! VIe: each construct of an expression. -/
namespace VI
open PySem PySem.Spec PyProof.Rows L2

theorem Fin.post {α β : Type} {ex : Nat → D → Prop} {Z : Stt} {σ : L2.St} {S : Hp} {V : Hp → Hp → Env → α → β → Prop} {r : Res α} {Q Q' : β → Hp → Prop} (h : Fin ex Z σ S V r Q) (hq : ∀ b H', Q b H' → Q' b H') : Fin ex Z σ S V r Q' := by
  cases r with
  | ok a env' => exact fun b H' S' R hs v => hq b H' (h b H' S' R hs v)
  | exc k d => exact h
  | bad => exact h
theorem Fin.ok {α β : Type} {ex : Nat → D → Prop} {Z : Stt} {σ : L2.St} {S : Hp} {V : Hp → Hp → Env → α → β → Prop} {a : α} {env : Env} {Q : β → Hp → Prop} (h : Fin ex Z σ S V (.ok a env) Q) {b : β} {H' S' : Hp} (R : Rel Z σ S' H' env) (hs : Sub S S') (v : V S' H' env a b) : Q b H' := h b H' S' R hs v
theorem Fin.lift {α β : Type} {ex : Nat → D → Prop} {Z : Stt} {σ : L2.St} {S : Hp} {V : Hp → Hp → Env → α → β → Prop} {o : Option α} {env : Env} {Q : β → Hp → Prop} (h : Fin ex Z σ S V (lift o env) Q) : ∃ a, o = some a ∧ Fin ex Z σ S V (.ok a env) Q := by
  cases o with
  | none => exact h.elim
  | some a => exact ⟨a, rfl, h⟩
theorem _root_.L2.PE.weak {X : Cx} {e : Expr} {t t' : TE} (h : PE X e t) (hq : ∀ σ H Q, t' σ H Q → t σ H Q) : PE X e t' := ⟨fun pins s σ H Q I q => h.run pins s σ H Q I (hq σ H Q q)⟩
theorem _root_.L2.PT.weak {X : Cx} {e : Expr} {t t' : TT} (h : PT X e t) (hq : ∀ σ H Q, t' σ H Q → t σ H Q) : PT X e t' := ⟨fun pins s σ H Q I q => h.run pins s σ H Q I (hq σ H Q q)⟩
theorem _root_.L2.PW.weak {X : Cx} {e : Expr} {t t' : TT} (h : PW X e t) (hq : ∀ σ H Q, t' σ H Q → t σ H Q) : PW X e t' := ⟨fun w pins s σ H Q I q => h.run w pins s σ H Q I (hq σ H Q q)⟩
/-- any rule for an operation -/
def rU2 (X : Cx) (f : Value → Value → Sem Value) : R2 := fun x y H Q => ∃ r, OpR X f r ∧ r x y H Q
theorem rU2_ok {X : Cx} {f : Value → Value → Sem Value} : OpR X f (rU2 X f) := fun pins s σ H x y v u Q I rx ry ⟨r, hr, q⟩ => hr pins s σ H x y v u Q I rx ry q
def rUx (X : Cx) : R2 := fun x y H Q => ∃ r, IxR X r ∧ r x y H Q
theorem rUx_ok {X : Cx} : IxR X (rUx X) := fun a b pins s σ H x y v u Q I rx ry ⟨r, hr, q⟩ hs => hr a b pins s σ H x y v u Q I rx ry q hs
def rUs (X : Cx) : V → Option Int → Option Int → Hp → VK → Prop := fun x lo hi H Q => ∃ r, SlR X r ∧ r x lo hi H Q
theorem rUs_ok {X : Cx} : SlR X (rUs X) := fun pins s σ H x v vl vu lo hi sl Q I rx hs pl pu ⟨r, hr, q⟩ => hr pins s σ H x v vl vu lo hi sl Q I rx hs pl pu q
def rUc (X : Cx) (f : Value) : List V → Hp → VK → Prop := fun xs H Q => ∃ r, CallR X f r ∧ r xs H Q
theorem rUc_ok {X : Cx} {f : Value} : CallR X f (rUc X f) := fun pins s σ H xs us Q I rx ⟨r, hr, q⟩ => hr pins s σ H xs us Q I rx q
theorem notStar_each {e : Expr} {es : List Expr} {env : L2.Cx → PySem.Env} {X : Cx} (h : notStar e = true) : starEach (e :: es) X.env = (false, eval e X.env) :: starEach es X.env := by
  cases e <;> first | rfl | (unfold notStar at h; cases h)
theorem plain_ix {e : Expr} (h : plainIx e = true) : PlainIx e := by
  intro o i
  cases e <;> first | rfl | (unfold plainIx at h; cases h)
theorem base_ok {o : Expr} {n : Str} {env : PySem.Env} (h : isBase o = true) : attributeBase o n env (eval o env) = eval o env := by
  cases o <;> first
    | rfl
    | (rename_i f a k p
       cases f <;> first
         | rfl
         | (cases a <;> first
             | rfl
             | (cases k <;> first | rfl | (unfold isBase at h; cases h))))
theorem fold_ok {it : Expr} {env : PySem.Env} (h : notSet it = true) : ∀ x, foldedSetIterable it env x = pure x := by
  intro x
  cases it <;> first | rfl | (unfold notSet at h; cases h)
def plainT (e : Expr) : Bool := match e with
  | .UnaryOp .Not _ _ => false
  | .BoolOp .. => false
  | .IfExp .. => false
  | .Compare .. => false
  | _ => true
theorem plainT_ok {e : Expr} {env : PySem.Env} (h : plainT e = true) : ∀ whole, isTrue e env whole = (do let v ← whole; standAt e.pos; holding [v] (truthy v)) := by
  intro whole
  cases e <;> first
    | rfl
    | (unfold plainT at h; cases h)
    | (rename_i op x p
       cases op <;> first | rfl | (unfold plainT at h; cases h))
theorem pt_bool {X : Cx} {op : BoolOp} {vs : List Expr} {pos : Pos} {t : TT} (h : PT X (.BoolOp op vs pos) t) : PW X (.BoolOp op vs pos) t := ⟨fun w pins s σ H Q I q => by
  have e : isTrue (.BoolOp op vs pos) X.env w = isTrue (.BoolOp op vs pos) X.env (eval (.BoolOp op vs pos) X.env) := rfl
  rw [e]
  exact h.run pins s σ H Q I q⟩
theorem pt_ife {X : Cx} {c a b : Expr} {pos : Pos} {tc ta tb : TT} (hc : PT X c tc) (ha : PT X a ta) (hb : PT X b tb) : PT X (.IfExp c a b pos) (fun σ H Q => tc σ H fun d H1 => if d = true then ta σ H1 Q else tb σ H1 Q) := by
  refine ⟨fun pins s σ H Q I h => ?_⟩
  rw [arm_isTrue_IfExp]
  refine wpAny_bind (thn (hc.run pins s σ H _ I h) fun d s1 ⟨H1, I1, q1⟩ => ?_)
  cases d with
  | true => exact ha.run pins s1 σ H1 Q I1 q1
  | false => exact hb.run pins s1 σ H1 Q I1 q1
theorem rep_scalar {W : Wd} {S S' : Hp} {d : D} {v : V} (h : scalar d = true) (r : Rep W S d v) : Rep W S' d v := by
  cases d with
  | lst => cases h
  | tup => cases h
  | scr => cases h
  | non => rw [rep_non] at r ⊢; exact r
  | bl => rw [rep_bl] at r ⊢; exact r
  | int => rw [rep_int] at r ⊢; exact r
  | str => rw [rep_str] at r ⊢; exact r
  | ty => rw [rep_ty] at r ⊢; exact r
  | fn => rw [rep_fn] at r ⊢; exact r
  | exn => cases h

section
variable {X : Cx} {xa : Nat → Addr} {E : L2.St → XK} {Γ : Cfg} {k : Nat} {sc : Scope} {Z : Stt} {C : CT}
/-- the names, the constants -/
theorem e_var {i : Nat} {x : Str} {p : Pos} (cx : CxOk X Z.W xa E Γ k sc) (hs : slotC Γ sc i x = true) (ho : i ∉ Z.own) : PE X (.Name x p) (semE xa E Z C false (.var i)) := by
  unfold slotC at hs
  rw [Bool.and_eq_true, Bool.and_eq_true] at hs
  obtain ⟨⟨h1, h2⟩, h3⟩ := hs
  unfold okName at h3
  rw [Bool.and_eq_true, Bool.and_eq_true] at h3
  refine (pe_var (i := i) (by rw [cx.N]; exact of_decide_eq_true h1) (cx.vis x h2) (by simpa using h3.1.1) (by simpa using h3.1.2)).weak fun σ H Q h => ?_
  obtain ⟨S, env, R, f⟩ := h
  obtain ⟨d, e, f⟩ := Fin.lift (o := getE env i) f
  obtain ⟨v, h4, _, h5⟩ := R.sl i d e
  exact ⟨v, h4, f.ok R (Sub.refl S) (vx_of (h5 ho))⟩
theorem e_const {e : IE} {pe : Expr} {d : D} {v : V} (h : PE X pe (tC v)) (he : ∀ env, ev C e env = .ok d env) (hr : ∀ S, Rep Z.W S d v) : PE X pe (semE xa E Z C false e) := by
  refine h.weak fun σ H Q h => ?_
  obtain ⟨S, env, R, f⟩ := h
  rw [he] at f
  exact f.ok R (Sub.refl S) (vx_of (hr S))
theorem e_fn {g : Nat} {x : Str} {p : Pos} {f : Fn} (cx : CxOk X Z.W xa E Γ k sc) (hg : glC sc x = true) (hn : okName x = true) (hf : Γ.T[g]? = some f) (hx : f.name = x) (hm : f.msk = []) : PE X (.Name x p) (semE xa E Z C false (.fn g)) := by
  obtain ⟨fd, ps, F, m, kp, _⟩ := cx.fns g f hf
  unfold okName at hn
  rw [Bool.and_eq_true, Bool.and_eq_true] at hn
  exact e_const (pe_glob (v := .ref (Z.W.fa g)) (cx.glo x hg) (by rw [← hx]; exact m) rfl (by simpa using hn.1.1)) (fun _ => rfl) fun S => rep_fn.mpr ⟨rfl, cx.plc g f hf hm⟩
/-- a test by its value -/
theorem t_val {e : IE} {pe : Expr} (h : PE X pe (semE xa E Z C false e)) (hp : plainT pe = true) : PT X pe (semT xa E Z C e) := by
  refine (pt_truth h (plainT_ok hp)).weak fun σ H Q q => ?_
  obtain ⟨S, env, R, f⟩ := q
  refine ⟨S, env, R, (Fin.bind f).post fun v H' q => ?_⟩
  obtain ⟨S1, env1, d, _, R1, hs, vx, f1⟩ := q
  obtain ⟨b, e1, f1⟩ := f1.lift
  exact ⟨b, tru_D R1.sub (vx_false vx) e1, f1.ok R1 (Sub.refl S1) rfl⟩
/-- with all lists shared -/
theorem scal_rel {σ : L2.St} {S H : Hp} {env : Env} (R : Rel Z σ S H env) : ∃ S', Sub S S' ∧ Rel ⟨Z.W, [], S', H, []⟩ σ S' H env := by
  classical
  let S' : Hp := fun b => if ∃ i, i ∈ Z.own ∧ getE env i ≠ none ∧ σ[i]? = some (some (.ref b)) then H b else S b
  have hs : Sub S S' := fun b o e => by
    show (if _ then H b else S b) = some o
    split
    · exact R.sub b o e
    · exact e
  refine ⟨S', hs, ⟨fun b o e => ?_, Sub.refl S', fun b o e _ => e, fun _ _ _ => rfl, fun i d e => ?_, fun i j a hi => by simp at hi, fun p hp => by simp at hp, R.ln, R.sz⟩⟩
  · have e : (if _ then H b else S b) = some o := e
    split at e
    · exact e
    · exact R.sub b o e
  · obtain ⟨v, h1, h2, h3⟩ := R.sl i d e
    refine ⟨v, h1, fun z => by simp at z, fun _ => ?_⟩
    by_cases ho : i ∈ Z.own
    · obtain ⟨a, ds, vs, rfl, rfl, e1, e2, r, _⟩ := h2 ho
      refine rep_lst.mpr ⟨a, vs, rfl, ?_, r.mono hs⟩
      show (if _ then H a else S a) = _
      rw [if_pos ⟨i, ho, (by rw [e]; exact fun q => (by cases q)), h1⟩]
      exact e1
    · exact (h3 ho).mono hs
theorem scal_up {σ : L2.St} {S S' S2 H H' : Hp} {env env' : Env} (R : Rel Z σ S H env) (hs : Sub S S') (R2 : Rel ⟨Z.W, [], S', H, []⟩ σ S2 H' env') : Rel Z σ S H' env :=
  R.up (Sub.refl S) (hs.trans (R2.s0.trans R2.sub)) (fun b o e => R2.fr b o e fun p hp => by simp at hp) (fun _ _ _ => rfl) R2.sz
theorem e_scal {e : IE} {pe : Expr} (h : ∀ Z' : Stt, Z'.W = Z.W → Z'.own = [] → PE X pe (semE xa E Z' C false e)) : PE X pe (semE xa E Z C false (.scal e)) := by
  refine ⟨fun pins s σ H Q I q => ?_⟩
  obtain ⟨S, env, R, f⟩ := q
  obtain ⟨S', hs, R'⟩ := scal_rel R
  refine (h ⟨Z.W, [], S', H, []⟩ rfl rfl).run pins s σ H Q I ⟨S', env, R', ?_⟩
  have f : Fin (Exs Z.W xa (E σ) Z) Z σ S (Vx Z σ false) ((exck (ev C e env)).bind fun d _ => if scalar d then .ok d env else .bad) Q := f
  cases he : ev C e env with
  | ok d env' =>
    rw [he] at f
    have f : Fin (Exs Z.W xa (E σ) Z) Z σ S (Vx Z σ false) (if scalar d then .ok d env else .bad) Q := f
    split at f
    · rename_i hd
      intro b H' S2 R2 hs2 v
      have r : Rep Z.W S2 d b := v.2 fun q => (by cases q)
      exact f.ok (scal_up R hs R2) (Sub.refl S) (vx_of (rep_scalar hd r))
    · exact f.elim
  | exc k d => rw [he] at f; exact f.elim
  | bad => rw [he] at f; exact f.elim
theorem t_scal {e : IE} {pe : Expr} (h : ∀ Z' : Stt, Z'.W = Z.W → Z'.own = [] → PT X pe (semT xa E Z' C e)) : PT X pe (semT xa E Z C (.scal e)) := by
  refine ⟨fun pins s σ H Q I q => ?_⟩
  obtain ⟨S, env, R, f⟩ := q
  obtain ⟨S', hs, R'⟩ := scal_rel R
  refine (h ⟨Z.W, [], S', H, []⟩ rfl rfl).run pins s σ H Q I ⟨S', env, R', ?_⟩
  have f : Fin (Exs Z.W xa (E σ) Z) Z σ S (Vb Z) (((exck (ev C e env)).bind fun d _ => if scalar d then .ok d env else .bad).bind fun x env1 => lift (truD x) env1) Q := f
  show Fin _ _ _ _ _ ((ev C e env).bind fun x env1 => lift (truD x) env1) Q
  cases he : ev C e env with
  | ok d env' =>
    rw [he] at f
    simp only [exck, Res.bind_ok] at f ⊢
    split at f
    · rename_i hd
      simp only [Res.bind_ok] at f
      obtain ⟨t, e1, f⟩ := f.lift
      rw [e1]
      intro b H' S2 R2 hs2 v
      have v : t = b := v
      subst v
      exact f.ok (scal_up R hs R2) (Sub.refl S) rfl
    · exact f.elim
  | exc k d => rw [he] at f; exact f.elim
  | bad => rw [he] at f; exact f.elim
/-- operators -/
theorem e_bin {op : Operator} {a b : IE} {l r : Expr} {p : Pos} {fr : Bool} (ha : PE X l (semE xa E Z C false a)) (hb : PE X r (semE xa E Z C false b)) : PE X (.BinOp l op r p) (semE xa E Z C fr (.bin op a b)) := by
  refine (pe_op (r := rU2 X (binaryOp op)) rU2_ok ha hb).weak fun σ H Q h => ?_
  obtain ⟨S, env, R, f⟩ := h
  refine ⟨S, env, R, (Fin.bind f).post fun x H1 q => ?_⟩
  obtain ⟨S1, env1, d1, _, R1, hs1, v1, f1⟩ := q
  refine ⟨S1, env1, R1, (Fin.bind f1).post fun y H2 q => ?_⟩
  obtain ⟨S2, env2, d2, _, R2, hs2, v2, f2⟩ := q
  obtain ⟨d, e, f2⟩ := f2.lift
  exact bin_ok R2.sub ((vx_false v1).mono hs2) (vx_false v2) e fun v H' m => mk_fin R2 f2 m
theorem e_neg {a : IE} {l : Expr} {p : Pos} (ha : PE X l (semE xa E Z C false a)) : PE X (.UnaryOp .USub l p) (semE xa E Z C false (.neg a)) := by
  refine (pe_un un_neg ha).weak fun σ H Q h => ?_
  obtain ⟨S, env, R, f⟩ := h
  refine ⟨S, env, R, (Fin.bind f).post fun x H1 q => ?_⟩
  obtain ⟨S1, env1, d1, _, R1, hs1, v1, f1⟩ := q
  obtain ⟨d, e, f1⟩ := f1.lift
  exact neg_ok (vx_false v1) e fun v H' m => mk_fin R1 f1 m
theorem e_not {a : IE} {l : Expr} {p : Pos} (ha : PE X l (semE xa E Z C false a)) : PE X (.UnaryOp .Not l p) (semE xa E Z C false (.not a)) := by
  refine (pe_notT ha).weak fun σ H Q h => ?_
  obtain ⟨S, env, R, f⟩ := h
  refine ⟨S, env, R, (Fin.bind f).post fun x H1 q => ?_⟩
  obtain ⟨S1, env1, d1, _, R1, hs1, v1, f1⟩ := q
  obtain ⟨d, e, f1⟩ := f1.lift
  cases ht : truD d1 with
  | none => rw [ht] at e; cases e
  | some t =>
    rw [ht] at e
    cases e
    exact ⟨t, tru_D R1.sub (vx_false v1) ht, f1.ok R1 (Sub.refl _) (vx_of (rep_bl.mpr rfl))⟩
theorem t_not {a : IE} {l : Expr} {p : Pos} (ha : PT X l (semT xa E Z C a)) : PT X (.UnaryOp .Not l p) (semT xa E Z C (.not a)) := by
  refine (pt_not ha).weak fun σ H Q h => ?_
  obtain ⟨S, env, R, f⟩ := h
  refine ⟨S, env, R, ?_⟩
  have f : Fin (Exs Z.W xa (E σ) Z) Z σ S (Vb Z) (((ev C a env).bind fun x env1 => lift ((truD x).map fun b => .bl (!b)) env1).bind fun x env1 => lift (truD x) env1) Q := f
  show Fin _ _ _ _ _ ((ev C a env).bind fun x env1 => lift (truD x) env1) _
  cases he : ev C a env with
  | ok d env1 =>
    rw [he] at f
    simp only [Res.bind_ok] at f ⊢
    cases ht : truD d with
    | none => rw [ht] at f; exact f.elim
    | some t =>
      rw [ht] at f
      intro b H' S' R' hs v
      have v : t = b := v
      subst v
      exact f (!t) H' S' R' hs rfl
  | exc k d => rw [he] at f; exact f
  | bad => rw [he] at f; exact f
theorem tru_and {x : D} {r1 r2 : Res D} {α : Type} (f : D → Env → Res α) : (match truD x with
    | some true => r1
    | some false => r2
    | none => (.bad : Res D)).bind f = match truD x with
    | some true => r1.bind f
    | some false => r2.bind f
    | none => .bad := by cases truD x with
  | none => rfl
  | some t => cases t <;> rfl
/-- and, or: the rest is one expression or again a chain -/
theorem e_and {a b : IE} {x y : Expr} {r : List Expr} {p : Pos} (ha : PE X x (semE xa E Z C false a)) (hb : PE X (.BoolOp .And (y :: r) p) (semE xa E Z C false b)) : PE X (.BoolOp .And (x :: y :: r) p) (semE xa E Z C false (.and a b)) := by
  refine (pe_andT ha hb).weak fun σ H Q h => ?_
  obtain ⟨S, env, R, f⟩ := h
  refine ⟨S, env, R, (Fin.bind f).post fun x H1 q => ?_⟩
  obtain ⟨S1, env1, d1, _, R1, hs1, v1, f1⟩ := q
  cases ht : truD d1 with
  | none => rw [ht] at f1; exact f1.elim
  | some t =>
    rw [ht] at f1
    refine ⟨t, tru_D R1.sub (vx_false v1) ht, ?_⟩
    cases t with
    | true => rw [if_pos rfl]; exact ⟨S1, env1, R1, f1⟩
    | false => rw [if_neg Bool.false_ne_true]; exact f1.ok R1 (Sub.refl _) v1
theorem e_or {a b : IE} {x y : Expr} {r : List Expr} {p : Pos} (ha : PE X x (semE xa E Z C false a)) (hb : PE X (.BoolOp .Or (y :: r) p) (semE xa E Z C false b)) : PE X (.BoolOp .Or (x :: y :: r) p) (semE xa E Z C false (.or a b)) := by
  refine (pe_orT ha hb).weak fun σ H Q h => ?_
  obtain ⟨S, env, R, f⟩ := h
  refine ⟨S, env, R, (Fin.bind f).post fun x H1 q => ?_⟩
  obtain ⟨S1, env1, d1, _, R1, hs1, v1, f1⟩ := q
  cases ht : truD d1 with
  | none => rw [ht] at f1; exact f1.elim
  | some t =>
    rw [ht] at f1
    refine ⟨t, tru_D R1.sub (vx_false v1) ht, ?_⟩
    cases t with
    | true => rw [if_pos rfl]; exact f1.ok R1 (Sub.refl _) v1
    | false => rw [if_neg Bool.false_ne_true]; exact ⟨S1, env1, R1, f1⟩
theorem evb_and (a b : IE) (env : Env) : evb C (.and a b) env = (evb C a env).bind fun t env1 => if t = true then evb C b env1 else .ok false env1 := by
  show ((ev C a env).bind _).bind _ = ((ev C a env).bind _).bind _
  cases ev C a env with
  | ok d env1 =>
    simp only [Res.bind_ok]
    cases ht : truD d with
    | none => rfl
    | some t =>
      cases t with
      | true => rfl
      | false => simp [ht]
  | exc k d => rfl
  | bad => rfl
theorem evb_or (a b : IE) (env : Env) : evb C (.or a b) env = (evb C a env).bind fun t env1 => if t = true then .ok true env1 else evb C b env1 := by
  show ((ev C a env).bind _).bind _ = ((ev C a env).bind _).bind _
  cases ev C a env with
  | ok d env1 =>
    simp only [Res.bind_ok]
    cases ht : truD d with
    | none => rfl
    | some t =>
      cases t with
      | true => simp [ht]
      | false => rfl
  | exc k d => rfl
  | bad => rfl
theorem evb_ife (c a b : IE) (env : Env) : evb C (.ife c a b) env = (evb C c env).bind fun t env1 => if t = true then evb C a env1 else evb C b env1 := by
  show ((ev C c env).bind _).bind _ = ((ev C c env).bind _).bind _
  cases ev C c env with
  | ok d env1 =>
    simp only [Res.bind_ok]
    cases ht : truD d with
    | none => rfl
    | some t => cases t <;> rfl
  | exc k d => rfl
  | bad => rfl
theorem t_and {a b : IE} {x y : Expr} {r : List Expr} {p : Pos} (ha : PT X x (semT xa E Z C a)) (hb : PW X (.BoolOp .And (y :: r) p) (semT xa E Z C b)) : PT X (.BoolOp .And (x :: y :: r) p) (semT xa E Z C (.and a b)) := by
  refine (pw_and ha hb).pt.weak fun σ H Q h => ?_
  obtain ⟨S, env, R, f⟩ := h
  rw [evb_and] at f
  refine ⟨S, env, R, (Fin.bind f).post fun t H1 q => ?_⟩
  obtain ⟨S1, env1, t1, _, R1, hs1, v1, f1⟩ := q
  have v1 : t1 = t := v1
  subst v1
  cases t1 with
  | true => rw [if_pos rfl] at f1 ⊢; exact ⟨S1, env1, R1, f1⟩
  | false => rw [if_neg Bool.false_ne_true] at f1 ⊢; exact f1.ok R1 (Sub.refl _) rfl
theorem t_or {a b : IE} {x y : Expr} {r : List Expr} {p : Pos} (ha : PT X x (semT xa E Z C a)) (hb : PW X (.BoolOp .Or (y :: r) p) (semT xa E Z C b)) : PT X (.BoolOp .Or (x :: y :: r) p) (semT xa E Z C (.or a b)) := by
  refine (pw_or ha hb).pt.weak fun σ H Q h => ?_
  obtain ⟨S, env, R, f⟩ := h
  rw [evb_or] at f
  refine ⟨S, env, R, (Fin.bind f).post fun t H1 q => ?_⟩
  obtain ⟨S1, env1, t1, _, R1, hs1, v1, f1⟩ := q
  have v1 : t1 = t := v1
  subst v1
  cases t1 with
  | true => rw [if_pos rfl] at f1 ⊢; exact f1.ok R1 (Sub.refl _) rfl
  | false => rw [if_neg Bool.false_ne_true] at f1 ⊢; exact ⟨S1, env1, R1, f1⟩
theorem e_ife {c a b : IE} {t x y : Expr} {p : Pos} {fr : Bool} (hc : PT X t (semT xa E Z C c)) (ha : PE X x (semE xa E Z C fr a)) (hb : PE X y (semE xa E Z C fr b)) : PE X (.IfExp t x y p) (semE xa E Z C fr (.ife c a b)) := by
  refine (pe_ifExp hc ha hb).weak fun σ H Q h => ?_
  obtain ⟨S, env, R, f⟩ := h
  have e : ev C (.ife c a b) env = (evb C c env).bind fun t env1 => if t = true then ev C a env1 else ev C b env1 := by
    show (ev C c env).bind _ = ((ev C c env).bind _).bind _
    cases ev C c env with
    | ok d env1 =>
      simp only [Res.bind_ok]
      cases ht : truD d with
      | none => rfl
      | some t => cases t <;> rfl
    | exc k d => rfl
    | bad => rfl
  rw [e] at f
  refine ⟨S, env, R, (Fin.bind f).post fun t H1 q => ?_⟩
  obtain ⟨S1, env1, t1, _, R1, hs1, v1, f1⟩ := q
  have v1 : t1 = t := v1
  subst v1
  cases t1 with
  | true => rw [if_pos rfl] at f1 ⊢; exact ⟨S1, env1, R1, f1⟩
  | false => rw [if_neg Bool.false_ne_true] at f1 ⊢; exact ⟨S1, env1, R1, f1⟩
theorem t_ife {c a b : IE} {t x y : Expr} {p : Pos} (hc : PT X t (semT xa E Z C c)) (ha : PT X x (semT xa E Z C a)) (hb : PT X y (semT xa E Z C b)) : PT X (.IfExp t x y p) (semT xa E Z C (.ife c a b)) := by
  refine (pt_ife hc ha hb).weak fun σ H Q h => ?_
  obtain ⟨S, env, R, f⟩ := h
  rw [evb_ife] at f
  refine ⟨S, env, R, (Fin.bind f).post fun t H1 q => ?_⟩
  obtain ⟨S1, env1, t1, _, R1, hs1, v1, f1⟩ := q
  have v1 : t1 = t := v1
  subst v1
  cases t1 with
  | true => rw [if_pos rfl] at f1 ⊢; exact ⟨S1, env1, R1, f1⟩
  | false => rw [if_neg Bool.false_ne_true] at f1 ⊢; exact ⟨S1, env1, R1, f1⟩
/-- comparisons -/
theorem cmp_step {op : CmpOp} {a b : IE} {σ : L2.St} {H : Hp} {Q : VK} (cx : CxOk X Z.W xa E Γ k sc) (h : semE xa E Z C false (.cmp op a b) σ H Q) : tOp (rU2 X (compareOp op)) (semE xa E Z C false a) (semE xa E Z C false b) σ H Q := by
  obtain ⟨S, env, R, f⟩ := h
  refine ⟨S, env, R, (Fin.bind f).post fun x H1 q => ?_⟩
  obtain ⟨S1, env1, d1, _, R1, hs1, v1, f1⟩ := q
  refine ⟨S1, env1, R1, (Fin.bind f1).post fun y H2 q => ?_⟩
  obtain ⟨S2, env2, d2, _, R2, hs2, v2, f2⟩ := q
  obtain ⟨d, e, f2⟩ := f2.lift
  cases hc : cmpD op d1 d2 with
  | none => rw [hc] at e; cases e
  | some t =>
    rw [hc] at e
    cases e
    exact cmp_ok cx.K (by have := cx.room.un; omega) R2.sub ((vx_false v1).mono hs2) (vx_false v2) hc (f2.ok R2 (Sub.refl _) (vx_of (rep_bl.mpr rfl)))
theorem e_cmp {op : CmpOp} {a b : IE} {l r : Expr} {p : Pos} (cx : CxOk X Z.W xa E Γ k sc) (ha : PE X l (semE xa E Z C false a)) (hb : PE X r (semE xa E Z C false b)) (hm : behindInMarks op r = false) : PE X (.Compare l [op] [r] p) (semE xa E Z C false (.cmp op a b)) :=
  (pe_cmpR (r := rU2 X (compareOp op)) rU2_ok ha hb hm).weak fun σ H Q h => cmp_step cx h
/-- a value that is True or False, as a test -/
theorem t_of_bl {e : IE} {σ : L2.St} {H : Hp} {Q : Bool → Hp → Prop} (hb : ∀ env d env', ev C e env = .ok d env' → ∃ t, d = .bl t) (h : semT xa E Z C e σ H Q) : semE xa E Z C false e σ H fun x H' => ∃ k, x = .bl k ∧ Q k H' := by
  obtain ⟨S, env, R, f⟩ := h
  refine ⟨S, env, R, (Fin.bind (V1 := Vx Z σ false) f).imp fun d env' b H' S' e1 R' hs v k => ?_⟩
  obtain ⟨S1, env1, d1, e2, R1, hs1, v1, f1⟩ := k b H' S' R' hs v
  obtain ⟨t, rfl⟩ := hb _ _ _ e2
  have r := vx_false v1
  rw [rep_bl] at r
  subst r
  obtain ⟨t', e3, f1⟩ := f1.lift
  cases e3
  exact ⟨t, rfl, f1.ok R1 (Sub.refl _) rfl⟩
theorem cmp_bl {op : CmpOp} {a b : IE} : ∀ env d env', ev C (.cmp op a b) env = .ok d env' → ∃ t, d = .bl t := fun env d env' h => by
  have h : (ev C a env).bind (fun x env1 => (ev C b env1).bind fun y env2 => lift ((cmpD op x y).map D.bl) env2) = .ok d env' := h
  cases e1 : ev C a env with
  | ok x env1 =>
    rw [e1] at h
    simp only [Res.bind_ok] at h
    cases e2 : ev C b env1 with
    | ok y env2 =>
      rw [e2] at h
      simp only [Res.bind_ok] at h
      cases e3 : cmpD op x y with
      | none => rw [e3] at h; cases h
      | some t => rw [e3] at h; cases h; exact ⟨t, rfl⟩
    | exc k d => rw [e2] at h; cases h
    | bad => rw [e2] at h; cases h
  | exc k d => rw [e1] at h; cases h
  | bad => rw [e1] at h; cases h
theorem t_cmp {op : CmpOp} {a b : IE} {l r : Expr} {p : Pos} (cx : CxOk X Z.W xa E Γ k sc) (ha : PE X l (semE xa E Z C false a)) (hb : PE X r (semE xa E Z C false b)) (hm : behindInMarks op r = false) : PT X (.Compare l [op] [r] p) (semT xa E Z C (.cmp op a b)) :=
  (pt_cmpR (r := rU2 X (compareOp op)) rU2_ok ha hb hm).weak fun σ H Q h => cmp_step cx (t_of_bl cmp_bl h)
theorem chn_step {o1 o2 : CmpOp} {a b c : IE} {σ : L2.St} {H : Hp} {Q : VK} (cx : CxOk X Z.W xa E Γ k sc) (h : semE xa E Z C false (.chn o1 o2 a b c) σ H Q) :
    tChain (rU2 X (compareOp o1)) (rU2 X (compareOp o2)) (semE xa E Z C false a) (semE xa E Z C false b) (semE xa E Z C false c) σ H Q := by
  obtain ⟨S, env, R, f⟩ := h
  have hu : X.A.units + 65 < cLine := by have := cx.room.un; omega
  refine ⟨S, env, R, (Fin.bind f).post fun x H1 q => ?_⟩
  obtain ⟨S1, env1, d1, _, R1, hs1, v1, f1⟩ := q
  refine ⟨S1, env1, R1, (Fin.bind f1).post fun y H2 q => ?_⟩
  obtain ⟨S2, env2, d2, _, R2, hs2, v2, f2⟩ := q
  cases hc : cmpD o1 d1 d2 with
  | none => rw [hc] at f2; exact f2.elim
  | some t =>
    rw [hc] at f2
    refine cmp_ok cx.K hu R2.sub ((vx_false v1).mono hs2) (vx_false v2) hc ⟨t, rfl, ?_⟩
    cases t with
    | false => rw [if_neg Bool.false_ne_true]; exact f2.ok R2 (Sub.refl _) (vx_of (rep_bl.mpr rfl))
    | true =>
      rw [if_pos rfl]
      refine ⟨S2, env2, R2, (Fin.bind f2).post fun z H3 q => ?_⟩
      obtain ⟨S3, env3, d3, _, R3, hs3, v3, f3⟩ := q
      obtain ⟨d, e, f3⟩ := f3.lift
      cases hc2 : cmpD o2 d2 d3 with
      | none => rw [hc2] at e; cases e
      | some t2 =>
        rw [hc2] at e
        cases e
        exact cmp_ok cx.K hu R3.sub ((vx_false v2).mono hs3) (vx_false v3) hc2 (f3.ok R3 (Sub.refl _) (vx_of (rep_bl.mpr rfl)))
theorem e_chn {o1 o2 : CmpOp} {a b c : IE} {l r1 r2 : Expr} {p : Pos} (cx : CxOk X Z.W xa E Γ k sc) (ha : PE X l (semE xa E Z C false a)) (hb : PE X r1 (semE xa E Z C false b)) (hc : PE X r2 (semE xa E Z C false c)) (hm : lastMarks [o1, o2] [r1, r2] = false) :
    PE X (.Compare l [o1, o2] [r1, r2] p) (semE xa E Z C false (.chn o1 o2 a b c)) :=
  (pe_chain (r := rU2 X (compareOp o1)) (r' := rU2 X (compareOp o2)) rU2_ok rU2_ok ha hb hc hm).weak fun σ H Q h => chn_step cx h
theorem chn_bl {o1 o2 : CmpOp} {a b c : IE} : ∀ env d env', ev C (.chn o1 o2 a b c) env = .ok d env' → ∃ t, d = .bl t := fun env d env' h => by
  have h : (ev C a env).bind (fun x env1 => (ev C b env1).bind fun y env2 => match cmpD o1 x y with
    | some true => (ev C c env2).bind fun z env3 => lift ((cmpD o2 y z).map D.bl) env3
    | some false => .ok (.bl false) env2
    | none => .bad) = .ok d env' := h
  cases e1 : ev C a env with
  | ok x env1 =>
    rw [e1] at h
    simp only [Res.bind_ok] at h
    cases e2 : ev C b env1 with
    | ok y env2 =>
      rw [e2] at h
      simp only [Res.bind_ok] at h
      cases e3 : cmpD o1 x y with
      | none => rw [e3] at h; cases h
      | some t =>
        rw [e3] at h
        cases t with
        | false => cases h; exact ⟨false, rfl⟩
        | true =>
          simp only at h
          cases e4 : ev C c env2 with
          | ok z env3 =>
            rw [e4] at h
            simp only [Res.bind_ok] at h
            cases e5 : cmpD o2 y z with
            | none => rw [e5] at h; cases h
            | some t => rw [e5] at h; cases h; exact ⟨t, rfl⟩
          | exc k d => rw [e4] at h; cases h
          | bad => rw [e4] at h; cases h
    | exc k d => rw [e2] at h; cases h
    | bad => rw [e2] at h; cases h
  | exc k d => rw [e1] at h; cases h
  | bad => rw [e1] at h; cases h
theorem t_chn {o1 o2 : CmpOp} {a b c : IE} {l r1 r2 : Expr} {p : Pos} (cx : CxOk X Z.W xa E Γ k sc) (ha : PE X l (semE xa E Z C false a)) (hb : PE X r1 (semE xa E Z C false b)) (hc : PE X r2 (semE xa E Z C false c)) (hm : lastMarks [o1, o2] [r1, r2] = false) :
    PT X (.Compare l [o1, o2] [r1, r2] p) (semT xa E Z C (.chn o1 o2 a b c)) :=
  (pt_chain (r := rU2 X (compareOp o1)) (r' := rU2 X (compareOp o2)) rU2_ok rU2_ok ha hb hc hm).weak fun σ H Q h => chn_step cx (t_of_bl chn_bl h)
/-- displays -/
theorem e_lst {es : IEs} {xs : List Expr} {p : Pos} {fr : Bool} (ha : PA X xs (semA xa E Z C es)) (hn : noOwn es.owns = true) : PE X (.List xs p) (semE xa E Z C fr (.lst es)) := by
  refine (pe_lst ha).weak fun σ H Q h => ?_
  obtain ⟨S, env, R, f⟩ := h
  refine ⟨S, env, R, (Fin.bind f).post fun vs H1 q => ?_⟩
  obtain ⟨S1, env1, ds, _, R1, hs1, v1, f1⟩ := q
  have r := ARs.none v1 hn
  split at f1
  · rename_i hz
    rw [r.length] at hz
    exact ⟨hz, fun t ht => mk_fin R1 f1 (.lst t ht r hz)⟩
  · exact f1.elim
theorem e_tup {es : IEs} {xs : List Expr} {p : Pos} {kk : Nat} (ha : PA X xs (semA xa E Z C es)) (hn : noOwn es.owns = true) : PE X (.Tuple xs kk p) (semE xa E Z C false (.tup es)) := by
  refine (pe_tup ha).weak fun σ H Q h => ?_
  obtain ⟨S, env, R, f⟩ := h
  refine ⟨S, env, R, (Fin.bind f).post fun vs H1 q => ?_⟩
  obtain ⟨S1, env1, ds, _, R1, hs1, v1, f1⟩ := q
  have r := ARs.none v1 hn
  split at f1
  · rename_i hz
    rw [r.length] at hz
    exact ⟨hz, fun t ht => mk_fin R1 f1 (.tup t ht r hz)⟩
  · exact f1.elim
theorem e_idx {a b : IE} {l r : Expr} {p : Pos} (cx : CxOk X Z.W xa E Γ k sc) (ha : PE X l (semE xa E Z C false a)) (hb : PE X r (semE xa E Z C false b)) (hp : plainIx r = true) : PE X (.Subscript l r p) (semE xa E Z C false (.idx a b)) := by
  refine (pe_ix (r := rUx X) rUx_ok ha hb (plain_ix hp)).weak fun σ H Q h => ?_
  obtain ⟨S, env, R, f⟩ := h
  refine ⟨S, env, R, (Fin.bind f).post fun x H1 q => ?_⟩
  obtain ⟨S1, env1, d1, _, R1, hs1, v1, f1⟩ := q
  refine ⟨S1, env1, R1, (Fin.bind f1).post fun y H2 q => ?_⟩
  obtain ⟨S2, env2, d2, _, R2, hs2, v2, f2⟩ := q
  obtain ⟨d, e, f2⟩ := f2.lift
  exact idx_ok cx.K R2.sub ((vx_false v1).mono hs2) (vx_false v2) e fun v r => f2.ok R2 (Sub.refl _) (vx_of r)
theorem slot_own {i : Nat} {x : Str} {p : Pos} (cx : CxOk X Z.W xa E Γ k sc) (hs : slotC Γ sc i x = true) : PE X (.Name x p) (tVar i) := by
  unfold slotC at hs
  rw [Bool.and_eq_true, Bool.and_eq_true] at hs
  obtain ⟨⟨h1, h2⟩, h3⟩ := hs
  unfold okName at h3
  rw [Bool.and_eq_true, Bool.and_eq_true] at h3
  exact pe_var (i := i) (by rw [cx.N]; exact of_decide_eq_true h1) (cx.vis x h2) (by simpa using h3.1.1) (by simpa using h3.1.2)
/-- an item of a list of one's own -/
theorem e_idxo {i : Nat} {b : IE} {x : Str} {r : Expr} {p p2 : Pos} (cx : CxOk X Z.W xa E Γ k sc) (hi : i ∈ Z.own) (hs : slotC Γ sc i x = true) (hb : PE X r (semE xa E Z C false b)) (hp : plainIx r = true) : PE X (.Subscript (.Name x p2) r p) (semE xa E Z C false (.idxo i b)) := by
  refine (pe_ix (r := rUx X) rUx_ok (slot_own cx hs) hb (plain_ix hp)).weak fun σ H Q h => ?_
  obtain ⟨S, env, R, f⟩ := h
  unfold ev at f
  split at f
  · exact f.elim
  · rename_i d0 e0
    obtain ⟨a, ds0, vs0, rfl, s1, _⟩ := R.owned hi e0
    refine ⟨.ref a, s1, S, env, R, (Fin.bind f).post fun y H1 q => ?_⟩
    obtain ⟨S1, env1, d1, _, R1, hs1, v1, f1⟩ := q
    obtain ⟨d, e, f2⟩ := f1.lift
    cases e1 : getE env1 i with
    | none => rw [e1] at e; cases e
    | some d2 =>
      rw [e1] at e
      have e : idxD d2 d1 = some d := e
      obtain ⟨c, ds, vs, rfl, s2, hH, _, rs, _⟩ := R1.owned hi e1
      rw [s1] at s2
      cases s2
      have v1 := vx_false v1
      cases d1 with
      | int z =>
        have e : atI ds z = some d := e
        rw [rep_int] at v1
        subst v1
        obtain ⟨v, h1, h2⟩ := rep_atI rs e
        exact ⟨_, ix_list, a, vs, _, v, rfl, rfl, SqL.of hH, h1, f2.ok R1 (Sub.refl _) (vx_of h2)⟩
      | _ => cases e
theorem e_sl {a : IE} {lo hi : IO} {l : Expr} {u1 u2 : Option Expr} {p p2 : Pos} {fr : Bool} (cx : CxOk X Z.W xa E Γ k sc) (ha : PE X l (semE xa E Z C false a)) (h1 : PO X u1 (semO xa E Z C lo)) (h2 : PO X u2 (semO xa E Z C hi)) : PE X (.Subscript l (.Slice u1 u2 none p2) p) (semE xa E Z C fr (.sl a lo hi)) := by
  refine (pe_slice (r := rUs X) rUs_ok ha h1 h2).weak fun σ H Q h => ?_
  obtain ⟨S, env, R, f⟩ := h
  refine ⟨S, env, R, (Fin.bind f).post fun x H1 q => ?_⟩
  obtain ⟨S1, env1, d1, _, R1, hs1, v1, f1⟩ := q
  refine ⟨S1, env1, R1, (Fin.bind f1).post fun i H2 q => ?_⟩
  obtain ⟨S2, env2, d2, _, R2, hs2, v2, f2⟩ := q
  have v2 : d2 = i := v2
  subst v2
  refine ⟨S2, env2, R2, (Fin.bind f2).post fun j H3 q => ?_⟩
  obtain ⟨S3, env3, d3, _, R3, hs3, v3, f3⟩ := q
  have v3 : d3 = j := v3
  subst v3
  obtain ⟨d, e, f3⟩ := f3.lift
  exact sl_ok cx.K R3.sz.two R3.sub ((vx_false v1).mono (hs2.trans hs3)) e fun v H' m => mk_fin R3 f3 m
theorem o_none : PO X none (semO xa E Z C .none) := by
  refine ⟨fun pins s σ H Q I h => po_none.run pins s σ H Q I ?_⟩
  obtain ⟨S, env, R, f⟩ := h
  exact Fin.ok (a := (none : Option Int)) f R (Sub.refl S) rfl
theorem o_some {e : IE} {x : Expr} (ha : PE X x (semE xa E Z C false e)) : PO X (some x) (semO xa E Z C (.some e)) := by
  refine ⟨fun pins s σ H Q I h => (po_some ha).run pins s σ H Q I ?_⟩
  obtain ⟨S, env, R, f⟩ := h
  refine ⟨S, env, R, (Fin.bind f).post fun v H1 q => ?_⟩
  obtain ⟨S1, env1, d1, _, R1, hs1, v1, f1⟩ := q
  cases d1 with
  | int i =>
    have r := vx_false v1
    rw [rep_int] at r
    exact ⟨i, r, Fin.ok (a := some i) f1 R1 (Sub.refl _) rfl⟩
  | _ => exact f1.elim
/-- built-ins -/
theorem boot_name (b : BI) : bootBuiltins (biName b) = some (biV b) := by
  cases b <;> decide +kernel
theorem e_bi {b : BI} {es : IEs} {y : Expr} {ys : List Expr} {p pos : Pos} {fr : Bool} (cx : CxOk X Z.W xa E Γ k sc) (hg : glC sc (biName b) = true) (hy : notStar y = true) (hys : ys.all notStar = true) (ha : PA X (y :: ys) (semA xa E Z C es)) (hn : noOwn es.owns = true) :
    PE X (.Call (.Name (biName b) p) (y :: ys) [] pos) (semE xa E Z C fr (.bi b es)) := by
  have hm : X.mg (biName b) = none := cx.bl _ (by cases b <;> decide)
  have he : starEach (y :: ys) X.env = (false, eval y X.env) :: starEach ys X.env := notStar_each (env := fun X => X.env) hy
  have hpl : (backTo pos (starEach ys X.env)).any (·.1) = false := by
    have key : ∀ l : List Expr, l.all notStar = true → (backTo pos (starEach l X.env)).any (·.1) = false := by
      intro l
      induction l with
      | nil => intro _; rfl
      | cons x xs ih =>
        intro h
        rw [List.all_cons, Bool.and_eq_true] at h
        rw [notStar_each (env := fun X => X.env) h.1]
        show (false || (backTo pos (starEach xs X.env)).any (·.1)) = false
        rw [ih h.2]
        rfl
    exact key ys hys
  have step : ∀ σ H Q, semE xa E Z C fr (.bi b es) σ H Q → tCB (rUc X (biV b)) (semA xa E Z C es) σ H Q := fun σ H Q h => by
    obtain ⟨S, env, R, f⟩ := h
    refine ⟨S, env, R, (Fin.bind f).post fun vs H1 q => ?_⟩
    obtain ⟨S1, env1, ds, _, R1, hs1, v1, f1⟩ := q
    obtain ⟨d, e, f1⟩ := f1.lift
    exact bi_ok cx.K cx.gd (by have := cx.room.un; omega) cx.calm R1.sz.two R1.sub (ARs.none v1 hn) e fun v H' m => mk_fin R1 f1 m
  have hb := boot_name b
  have hne : biName b ≠ ("__name__" : Str) := by cases b <;> decide
  have hdb : (biName b == ("__debug__" : Str)) = false := by cases b <;> decide
  have callB : ∀ id, biV b = .builtin id → PE X (.Call (.Name (biName b) p) (y :: ys) [] pos) (semE xa E Z C fr (.bi b es)) := fun id e =>
    (pe_callB (r := rUc X (biV b)) (by rw [e]; exact rUc_ok) (cx.glo _ hg) hm (by rw [hb, e]) ha hne hdb he hpl).weak step
  have callT : ∀ T, biV b = .type T → PE X (.Call (.Name (biName b) p) (y :: ys) [] pos) (semE xa E Z C fr (.bi b es)) := fun id e =>
    (pe_callTy (r := rUc X (biV b)) (by rw [e]; exact rUc_ok) (cx.glo _ hg) hm (by rw [hb, e]) ha hne hdb he hpl).weak step
  cases b <;> first | exact callB _ rfl | exact callT _ rfl
/-- a caught exception: its field, its class -/
theorem e_xval {a : IE} {o : Expr} {ap : Pos} (cx : CxOk X Z.W xa E Γ k sc) (ha : PE X o (semE xa E Z C false a)) (hb : isBase o = true) : PE X (.Attribute o "value" ap) (semE xa E Z C false (.xval a)) := by
  refine (pe_xv ha (base_ok hb)).weak fun σ H Q h => ?_
  obtain ⟨S, env, R, f⟩ := h
  refine ⟨S, env, R, (Fin.bind f).post fun x H1 q => ?_⟩
  obtain ⟨S1, env1, d1, _, R1, hs1, v1, f1⟩ := q
  cases d1 with
  | exn k d =>
    have r := vx_false v1
    rw [rep_exn] at r
    obtain ⟨b, dx, w, rfl, e1, e2, ho, r⟩ := r
    have hk := (cx.xo k).mp ho
    have T := cx.xs k _ (List.getElem?_eq_getElem hk)
    rw [cx.xc] at e1
    obtain ⟨f0, fd0, X0⟩ := T.init
    exact ⟨b, xa k, dx, _, w, rfl, R1.sub _ _ e1, R1.sub _ _ e2, T.xf, X0.noV, rfl, Fin.ok (a := d) f1 R1 (Sub.refl _) (vx_of r)⟩
  | _ => exact f1.elim
theorem e_isx {a : IE} {j : Nat} {y : Expr} {z : Str} {p1 p2 pos : Pos} (cx : CxOk X Z.W xa E Γ k sc) (hg : glC sc "isinstance" = true) (hy : notStar y = true) (ha : PE X y (semE xa E Z C false a)) (hz : glC sc z = true) (hn : okName z = true) (hj : Γ.xs[j]? = some z) : PE X (.Call (.Name "isinstance" p1) [y, .Name z p2] [] pos) (semE xa E Z C false (.isx a j)) := by
  have T := cx.xs j z hj
  have hjl : j < Γ.xs.length := (List.getElem?_eq_some_iff.mp hj).1
  unfold okName at hn
  rw [Bool.and_eq_true, Bool.and_eq_true] at hn
  have s2 : starEach [Expr.Name z p2] X.env = (false, eval (.Name z p2) X.env) :: starEach [] X.env := rfl
  have s1 : starEach [y, Expr.Name z p2] X.env = (false, eval y X.env) :: starEach [Expr.Name z p2] X.env := notStar_each (env := fun X => X.env) hy
  refine (pe_callB (r := rIsV X.K) call_isV (cx.glo _ hg) (cx.bl _ (by decide)) (boot_name .isi) (pa_cons ha (pa_cons (pe_glob (v := .ref (xa j)) (cx.glo z hz) T.glo rfl (by simpa using hn.1.1)) pa_nil s2) s1) (by decide) (by decide) s1 rfl).weak fun σ H Q h => ?_
  obtain ⟨S, env, R, f⟩ := h
  refine ⟨S, env, R, (Fin.bind f).post fun x H1 q => ?_⟩
  obtain ⟨S1, env1, d1, _, R1, hs1, v1, f1⟩ := q
  cases d1 with
  | exn k d =>
    have r := vx_false v1
    rw [rep_exn] at r
    obtain ⟨b, dx, w, rfl, e1, e2, ho, r⟩ := r
    have hk := (cx.xo k).mp ho
    have T1 := cx.xs k _ (List.getElem?_eq_getElem hk)
    rw [cx.xc] at e1
    exact ⟨b, xa k, xa j, dx, _, _, rfl, R1.sub _ _ e1, R1.sub _ _ e2, T1.ec, cx.xk k j hk hjl, Fin.ok (a := D.bl (k == j)) f1 R1 (Sub.refl _) (vx_of (rep_bl.mpr rfl))⟩
  | _ => exact f1.elim
theorem e_bits {a : IE} {o : Expr} {ap p : Pos} (ha : PE X o (semE xa E Z C false a)) (hb : isBase o = true) (hl : (ap.endLine == p.line) = true) : PE X (.Call (.Attribute o "bit_length" ap) [] [] p) (semE xa E Z C false (.bits a)) := by
  refine (pe_bits ha (base_ok hb) hl).weak fun σ H Q h => ?_
  obtain ⟨S, env, R, f⟩ := h
  refine ⟨S, env, R, (Fin.bind f).post fun x H1 q => ?_⟩
  obtain ⟨S1, env1, d1, _, R1, hs1, v1, f1⟩ := q
  cases d1 with
  | int i =>
    have r := vx_false v1
    rw [rep_int] at r
    exact ⟨i, r, Fin.ok (a := D.int (Builtin.Int.intBits i : Nat)) f1 R1 (Sub.refl _) (vx_of (rep_int.mpr rfl))⟩
  | _ => exact f1.elim
theorem e_ci {z : Int} {x : Str} {p : Pos} (cx : CxOk X Z.W xa E Γ k sc) (hg : glC sc x = true) (hn : okName x = true) (h : (x, z) ∈ Γ.ci) : PE X (.Name x p) (semE xa E Z C false (.int z)) := by
  obtain ⟨t, m⟩ := cx.ci x z h
  unfold okName at hn
  rw [Bool.and_eq_true, Bool.and_eq_true] at hn
  exact e_const (pe_glob (v := .int z) (cx.glo x hg) m ⟨t, rfl⟩ (by simpa using hn.1.1)) (fun _ => rfl) fun S => rep_int.mpr rfl
theorem e_cs {z : Str} {x : Str} {p : Pos} (cx : CxOk X Z.W xa E Γ k sc) (hg : glC sc x = true) (hn : okName x = true) (h : (x, z) ∈ Γ.cs) : PE X (.Name x p) (semE xa E Z C false (.str z)) := by
  obtain ⟨t, m⟩ := cx.cs x z h
  unfold okName at hn
  rw [Bool.and_eq_true, Bool.and_eq_true] at hn
  exact e_const (pe_glob (v := .str z) (cx.glo x hg) m ⟨t, rfl⟩ (by simpa using hn.1.1)) (fun _ => rfl) fun S => rep_str.mpr rfl
theorem reps_rev {W : Wd} {S : Hp} {ds : List D} {vs : List V} (r : Reps W S ds vs) : Reps W S ds.reverse vs.reverse := by
  induction ds generalizing vs with
  | nil => rw [reps_nil] at r; subst r; exact reps_nil.mpr rfl
  | cons d ds ih =>
    rw [reps_cons] at r
    obtain ⟨v, q, rfl, x, y⟩ := r
    rw [List.reverse_cons, List.reverse_cons]
    exact (ih y).append (reps_cons.mpr ⟨v, [], rfl, x, reps_nil.mpr rfl⟩)
theorem e_rev {a : IE} {l : Expr} {kk : Nat} {p1 p2 p3 pos : Pos} {fr : Bool} (cx : CxOk X Z.W xa E Γ k sc) (ha : PE X l (semE xa E Z C false a)) : PE X (.Subscript l (.Slice none none (some (.UnaryOp .USub (.Constant (.int 1) kk p1) p2)) p3) pos) (semE xa E Z C fr (.rev a)) := by
  refine (pe_revL ha).weak fun σ H Q h => ?_
  obtain ⟨S, env, R, f⟩ := h
  refine ⟨S, env, R, (Fin.bind f).post fun x H1 q => ?_⟩
  obtain ⟨S1, env1, d1, _, R1, hs1, v1, f1⟩ := q
  cases d1 with
  | lst ds =>
    have r := vx_false v1
    rw [rep_lst] at r
    obtain ⟨p, vs, rfl, e1, r1⟩ := r
    refine ⟨p, vs, rfl, SqL.of (R1.sub _ _ e1), fun t ht => mk_fin R1 f1 (.lst t ht (reps_rev r1) ?_)⟩
    rw [List.length_reverse]
    exact R1.sz _ _ (R1.sub _ _ e1)
  | _ => exact f1.elim
theorem rangeD_rg (W : Wd) (S : Hp) : ∀ (n : Nat) (lo : Int), Reps W S (rangeD lo n) ((List.range n).map fun i => V.int (lo + (i : Nat)))
  | 0, lo => reps_nil.mpr rfl
  | n + 1, lo => by
    unfold rangeD
    rw [List.range_succ_eq_map, List.map_cons, List.map_map]
    refine reps_cons.mpr ⟨.int lo, _, by simp; rfl, rep_int.mpr rfl, ?_⟩
    have e : (List.range n).map ((fun i : Nat => V.int (lo + (i : Nat))) ∘ Nat.succ) = (List.range n).map fun i => V.int (lo + 1 + (i : Nat)) := by
      refine List.map_congr_left fun i _ => ?_
      show V.int (lo + ((i + 1 : Nat) : Int)) = _
      congr 1
      omega
    rw [e]
    exact rangeD_rg W S n (lo + 1)
theorem rngOk_of {i : Int} (h : rngOk i = true) : -(2 ^ 62) ≤ i ∧ i < 2 ^ 62 := by
  unfold rngOk at h
  rw [Bool.and_eq_true] at h
  exact ⟨of_decide_eq_true h.1, of_decide_eq_true h.2⟩
theorem e_lrg {a : IE} {x : Expr} {p p1 p2 pos : Pos} {fr : Bool} (cx : CxOk X Z.W xa E Γ k sc) (h1 : glC sc "list" = true) (h2 : glC sc "range" = true) (hs : notStar x = true) (ha : PE X x (semE xa E Z C false a)) : PE X (.Call (.Name "list" p) [.Call (.Name "range" p1) [x] [] p2] [] pos) (semE xa E Z C fr (.lrg a)) := by
  have s1 : starEach [x] X.env = (false, eval x X.env) :: starEach [] X.env := notStar_each (env := fun X => X.env) hs
  refine (pe_listRg cx.calm (cx.glo _ h1) (cx.bl _ (by decide)) (prg_1 (cx.glo _ h2) (cx.bl _ (by decide)) ha s1) rfl).weak fun σ H Q h => ?_
  obtain ⟨S, env, R, f⟩ := h
  refine ⟨S, env, R, (Fin.bind f).post fun v H1 q => ?_⟩
  obtain ⟨S1, env1, d1, _, R1, hs1, v1, f1⟩ := q
  cases d1 with
  | int n =>
    simp only at f1
    split at f1
    · rename_i hc
      rw [Bool.and_eq_true] at hc
      obtain ⟨n1, n2⟩ := rngOk_of hc.1
      have n3 := of_decide_eq_true hc.2
      have r := vx_false v1
      rw [rep_int] at r
      subst r
      have e : (n - 0).toNat = n.toNat := by rw [Int.sub_zero]
      refine ⟨n, rfl, ⟨by decide, by decide, n1, n2, by rw [e]; exact n3⟩, fun t ht => ?_⟩
      unfold rgV
      rw [e]
      exact mk_fin R1 f1 (.lst t ht (rangeD_rg _ _ _ _) (by rw [List.length_map, List.length_range]; exact n3))
    · exact f1.elim
  | _ => exact f1.elim
theorem e_lrg2 {a b : IE} {x y : Expr} {p p1 p2 pos : Pos} {fr : Bool} (cx : CxOk X Z.W xa E Γ k sc) (h1 : glC sc "list" = true) (h2 : glC sc "range" = true) (hs : notStar x = true) (hs2 : notStar y = true) (ha : PE X x (semE xa E Z C false a)) (hb : PE X y (semE xa E Z C false b)) : PE X (.Call (.Name "list" p) [.Call (.Name "range" p1) [x, y] [] p2] [] pos) (semE xa E Z C fr (.lrg2 a b)) := by
  have s1 : starEach [x, y] X.env = (false, eval x X.env) :: starEach [y] X.env := notStar_each (env := fun X => X.env) hs
  have s2 : starEach [y] X.env = (false, eval y X.env) :: starEach [] X.env := notStar_each (env := fun X => X.env) hs2
  refine (pe_listRg cx.calm (cx.glo _ h1) (cx.bl _ (by decide)) (prg_2 (cx.glo _ h2) (cx.bl _ (by decide)) ha hb s1 s2 (by rw [s2]; rfl)) rfl).weak fun σ H Q h => ?_
  obtain ⟨S, env, R, f⟩ := h
  refine ⟨S, env, R, (Fin.bind (V1 := Vx Z σ false) f).post fun v H1 q => ?_⟩
  obtain ⟨S1, env1, d1, _, R1, hs1, v1, f1⟩ := q
  refine ⟨S1, env1, R1, (Fin.bind (V1 := Vx Z σ false) f1).post fun w H2 q => ?_⟩
  obtain ⟨S2, env2, d2, _, R2, hs2, v2, f2⟩ := q
  cases d1 with
  | int i =>
    cases d2 with
    | int j =>
      simp only at f2
      split at f2
      · rename_i hc
        rw [Bool.and_eq_true, Bool.and_eq_true] at hc
        obtain ⟨n1, n2⟩ := rngOk_of hc.1.1
        obtain ⟨n3, n4⟩ := rngOk_of hc.1.2
        have n5 := of_decide_eq_true hc.2
        have r := vx_false v1
        have r' := vx_false v2
        rw [rep_int] at r r'
        subst r r'
        refine ⟨i, j, rfl, rfl, ⟨n1, n2, n3, n4, n5⟩, fun t ht => ?_⟩
        exact mk_fin R2 f2 (.lst t ht (rangeD_rg _ _ _ _) (by rw [rgV_length]; exact n5))
      · exact f2.elim
    | _ => exact f2.elim
  | _ => exact f2.elim
/-- where an item stands -/
theorem e_idxof {a b : IE} {o y : Expr} {ap p : Pos} (cx : CxOk X Z.W xa E Γ k sc) (ha : PE X o (semE xa E Z C false a)) (hb : isBase o = true) (hs : notStar y = true) (hy : PE X y (semE xa E Z C false b)) (hl : (ap.endLine == p.line) = true) : PE X (.Call (.Attribute o "index" ap) [y] [] p) (semE xa E Z C false (.idxof a b)) := by
  have s1 : starEach [y] X.env = (false, eval y X.env) :: starEach [] X.env := notStar_each (env := fun X => X.env) hs
  have hu : X.A.units + 65 < cLine := by have := cx.room.un; omega
  refine (pe_bm F.plainAttrs_list F.slot_list_index F.type_list_index (mt_indexD hu) ha (pa_cons hy pa_nil s1) (base_ok hb) (by rw [s1]; rfl) hl s1 rfl).weak fun σ H Q h => ?_
  obtain ⟨S, env, R, f⟩ := h
  refine ⟨S, env, R, (Fin.bind f).post fun v H1 q => ?_⟩
  obtain ⟨S1, env1, d1, _, R1, hs1, v1, f1⟩ := q
  cases d1 with
  | lst xs =>
    have r := vx_false v1
    have r0 := r
    rw [rep_lst] at r0
    obtain ⟨l, vs, rfl, e1, r1⟩ := r0
    refine ⟨.inl ⟨rfl, vs, .inl (.inl (R1.sub _ _ e1))⟩, S1, env1, R1, (Fin.bind (V1 := Vx Z σ false) f1).post fun w H2 q => ?_⟩
    obtain ⟨S2, env2, d2, e2, R2, hs2, w2, f2⟩ := q
    obtain ⟨d, e, f2⟩ := Fin.lift f2
    unfold idxofD at e
    split at e
    · rename_i ds dd h1 h2
      split at e
      · rename_i hz
        rw [Bool.and_eq_true] at hz
        cases hj : ds.findIdx? (fun z => PyData.eqv z dd) with
        | none => rw [hj] at e; cases e
        | some j =>
          rw [hj] at e
          cases e
          obtain ⟨hlt, g1, g2⟩ := List.findIdx?_eq_some_iff_getElem.mp hj
          have dl := Dp.sub R2.sub _ _ ((r.mono hs2).dp h1)
          have dy := Dp.sub R2.sub _ _ ((vx_false w2).dp h2)
          rw [cx.K] at dl dy
          refine ⟨l, w, dd, ds, j, ds[j], rfl, rfl, dl, dy, hz.1, hz.2, List.getElem?_eq_getElem hlt, g1, fun m z' hm hz' => ?_, f2.ok R2 (Sub.refl _) (vx_of (rep_int.mpr rfl))⟩
          have hml : m < ds.length := by omega
          rw [List.getElem?_eq_getElem hml] at hz'
          cases hz'
          simpa using g2 m hm
      · cases e
    · cases e
  | _ => exact f1.elim
/-- the last item, or one at a place, is taken out -/
theorem e_pop0 {i : Nat} {x : Str} {xp ap p : Pos} (cx : CxOk X Z.W xa E Γ k sc) (hi : i ∈ Z.own) (hs : slotC Γ sc i x = true) (hl : (ap.endLine == p.line) = true) : PE X (.Call (.Attribute (.Name x xp) "pop" ap) [] [] p) (semE xa E Z C false (.pop i .nil)) := by
  refine (pe_bm0 F.plainAttrs_list F.slot_list_pop F.type_list_pop mt_pop (slot_own cx hs) rfl hl).weak fun σ H Q h => ?_
  obtain ⟨S, env, R, f⟩ := h
  unfold ev at f
  split at f
  · exact f.elim
  · rename_i d0 e0
    obtain ⟨a, ds0, vs0, rfl, s1, hH, hS, rs, _⟩ := R.owned hi e0
    unfold evs at f
    simp only [Res.bind_ok, e0] at f
    cases hd : ds0[ds0.length - 1]? with
    | none => rw [hd] at f; exact f.elim
    | some d =>
      rw [hd] at f
      obtain ⟨v, g1, g2⟩ := rs.get hd
      rw [rs.length] at g1
      refine ⟨.ref a, s1, .inl ⟨rfl, vs0, .inl (.inl hH)⟩, a, vs0, v, rfl, rfl, hH, g1, ?_⟩
      exact f.ok (R.mut hi (by rw [e0]; exact fun q => by cases q) s1 rs.dropLast (by rw [List.length_dropLast]; have := R.sz _ _ hH; have this : vs0.length ≤ sizeLine := this; omega)) (Sub.refl _) (vx_of g2)
theorem e_popAt {i : Nat} {es : IEs} {x : Str} {xp ap p : Pos} {y : Expr} (cx : CxOk X Z.W xa E Γ k sc) (hi : i ∈ Z.own) (hs : slotC Γ sc i x = true) (hst : notStar y = true) (ha : PA X [y] (semA xa E Z C es)) (hn : noOwn es.owns = true) (hlen : es.owns.length = 1) (hl : (ap.endLine == p.line) = true) : PE X (.Call (.Attribute (.Name x xp) "pop" ap) [y] [] p) (semE xa E Z C false (.pop i es)) := by
  have s1' : starEach [y] X.env = (false, eval y X.env) :: starEach [] X.env := notStar_each (env := fun X => X.env) hst
  refine (pe_bm F.plainAttrs_list F.slot_list_pop F.type_list_pop mt_popAt (slot_own cx hs) ha rfl (by rw [s1']; rfl) hl s1' rfl).weak fun σ H Q h => ?_
  obtain ⟨S, env, R, f⟩ := h
  unfold ev at f
  split at f
  · exact f.elim
  · rename_i d0 e0
    obtain ⟨a, ds0, vs0, rfl, s1, hH0, hS0, rs0, _⟩ := R.owned hi e0
    refine ⟨.ref a, s1, .inl ⟨rfl, vs0, .inl (.inl hH0)⟩, S, env, R, (Fin.bind f).post fun vs H1 q => ?_⟩
    obtain ⟨S1, env1, ds, he, R1, hs1, va, f1⟩ := q
    clear he
    have rv := va.none hn
    split at f1
    · rename_i e1
      have hz := va.len.1
      have hz2 := va.len.2
      simp only [List.length_nil] at hz2
      omega
    · rename_i xs kk e1
      split at f1
      · rename_i hr
        split at f1
        · rename_i j hj
          split at f1
          · rename_i d hd
            obtain ⟨b, ds1, vs1, e2, s2, hH, hS, rs, _⟩ := R1.owned hi e1
            cases e2
            rw [s1] at s2
            cases s2
            rw [reps_cons] at rv
            obtain ⟨w, q, rfl, r1, r2⟩ := rv
            rw [reps_nil] at r2
            subst r2
            rw [rep_int] at r1
            subst r1
            obtain ⟨v, g1, g2⟩ := rs.get hd
            rw [rs.length] at hj
            refine ⟨a, vs1, kk, j, v, rfl, rfl, hH, hr.1, hr.2, hj, g1, ?_⟩
            exact f1.ok (R1.mut hi (by rw [e1]; exact fun q => by cases q) s1 (rs.erase j) (Nat.le_trans (len_erase vs1 j) (R1.sz _ _ hH))) (Sub.refl _) (vx_of g2)
          · exact f1.elim
        · exact f1.elim
      · exact f1.elim
    · exact f1.elim
/-- how many different ints -/
theorem e_lenset {a : IE} {x : Expr} {p p2 q pos : Pos} (cx : CxOk X Z.W xa E Γ k sc) (h1 : glC sc "len" = true) (h2 : glC sc "set" = true) (hs : notStar x = true) (ha : PE X x (semE xa E Z C false a)) : PE X (.Call (.Name "len" p) [.Call (.Name "set" p2) [x] [] q] [] pos) (semE xa E Z C false (.lenset a)) := by
  have na : starEach [x] X.env = (false, eval x X.env) :: starEach [] X.env := notStar_each (env := fun X => X.env) hs
  refine ⟨fun pins s σ H Q I h => ?_⟩
  obtain ⟨S, env, R, f⟩ := h
  refine Call_ (ld_blt I (cx.glo _ h1) (cx.bl _ (by decide)) boot_len ?_)
  refine PyProof.Rows.callWith_builtin1 (PyProof.Rows.args_cons ?_ rfl) rfl rfl
  refine Call_ (ld_blt I (cx.glo _ h2) (cx.bl _ (by decide)) boot_set ?_)
  refine PyProof.Rows.callWith_type1 (PyProof.Rows.args_cons (thn (ha.run pins s σ H _ I ⟨S, env, R, Fin.bind f⟩) fun v s1 ⟨w, H1, I1, r1, q1⟩ => PyProof.Rows.args_nil ?_) na) na rfl
  obtain ⟨S1, env1, d1, _, R1, hs1, v1, f1⟩ := q1
  obtain ⟨d, e, f1⟩ := f1.lift
  cases d1 with
  | lst ds =>
    have e : (if ds.length ≤ 4000 then (intsOf ds).map fun ns => D.int ((PyProof.Rows.firstMet (fun i => ns.getD i 0) ns.length).length : Nat) else none) = some d := e
    split at e
    · rename_i hz
      cases hn : intsOf ds with
      | none => rw [hn] at e; cases e
      | some ns =>
        rw [hn] at e
        cases e
        have r := vx_false v1
        rw [rep_lst] at r
        obtain ⟨l, vs, rfl, e1, r2⟩ := r
        have hl := r2.length
        have e2 := r2.ints hn
        subst e2
        rw [List.length_map] at hl
        cases r1
        obtain ⟨its, r, pl, hz2⟩ := I1.list (SqL.of (R1.sub _ _ e1))
        have hlen : its.toArray.size = ns.length := by rw [List.size_toArray, ← r.length, List.length_map]
        refine call_set_list (I1.ok.hd cx.calm) pl.isList (by simpa using RZ.intsAre_vals r) (by rw [hlen]; unfold scanBound; omega) fun h' tk hS hk => ?_
        refine PyProof.Rows.args_nil ?_
        rw [hlen] at hS
        have hS' := hS
        obtain ⟨o, es, ep, t, ho, hex, hd, _, _, hb, hf, hn2⟩ := hS
        have I2 : Inv X pins σ H1 { s1 with heap := h', toks := tk } := I1.kept fun b o e => hk b o (Heap.lt_size e) e
        refine call_len_set ho hex hd hf (by unfold scanBound at hb; omega) ⟨.int ((PyProof.Rows.firstMet (fun i => ns.getD i 0) ns.length).length : Nat), H1, I2.tok _, ⟨_, by rw [hn2]⟩, f1.ok R1 (Sub.refl _) (vx_of (rep_int.mpr rfl))⟩
    · cases e
  | _ => cases e
/-- a text's methods -/
theorem e_sm {m : SM} {a b : IE} {o y : Expr} {ap p : Pos} (cx : CxOk X Z.W xa E Γ k sc) (ha : PE X o (semE xa E Z C false a)) (hb : isBase o = true) (hs : notStar y = true) (hy : PE X y (semE xa E Z C false b)) (hl : (ap.endLine == p.line) = true) : PE X (.Call (.Attribute o (smName m) ap) [y] [] p) (semE xa E Z C false (.sm m a b)) := by
  have s1 : starEach [y] X.env = (false, eval y X.env) :: starEach [] X.env := notStar_each (env := fun X => X.env) hs
  have step : ∀ {r : V → List V → Hp → VK → Prop}, (∀ {S H : Hp} {s : Str} {d e : D} {w : V} {Q : VK}, Sub S H → Rep Z.W S d w → smD m s d = some e → (∀ v H', Mk Z.W S H e v H' → Q v H') → r (.str s) [w] H Q) → ∀ σ H Q, semE xa E Z C false (.sm m a b) σ H Q → tBM X.K "str" r (semE xa E Z C false a) (tCons (semE xa E Z C false b) tNil) σ H Q := fun {r} hr σ H Q h => by
    obtain ⟨S, env, R, f⟩ := h
    refine ⟨S, env, R, (Fin.bind f).post fun v H1 q => ?_⟩
    obtain ⟨S1, env1, d1, _, R1, hs1, v1, f1⟩ := q
    cases d1 with
    | str s =>
      have r1 := vx_false v1
      rw [rep_str] at r1
      subst r1
      refine ⟨rfl, S1, env1, R1, (Fin.bind (V1 := Vx Z σ false) f1).post fun w H2 q => ?_⟩
      obtain ⟨S2, env2, d2, e2, R2, hs2, w2, f2⟩ := q
      obtain ⟨d, e, f2⟩ := Fin.lift f2
      exact hr R2.sub (vx_false w2) e fun v H' m => mk_fin R2 f2 m
    | _ => exact f1.elim
  have old : ∀ {S H : Hp} {d : D} {v : V}, (∀ ds, d ≠ .lst ds) → Rep Z.W S d v → Mk Z.W S H d v H := fun hn r => .old hn r
  cases m with
  | endswith =>
    refine (pe_bm F.plainAttrs_str F.slot_str_endswith F.type_str_endswith mt_endswith ha (pa_cons hy pa_nil s1) (base_ok hb) (by rw [s1]; rfl) hl s1 rfl).weak (step fun {S H s d e w Q} sub rw' he hQ => ?_)
    cases d with
    | str t =>
      cases he
      rw [rep_str] at rw'
      subst rw'
      exact ⟨_, _, rfl, rfl, hQ _ _ (.old (fun _ z => by cases z) (rep_bl.mpr rfl))⟩
    | _ => cases he
  | startswith =>
    refine (pe_bm F.plainAttrs_str F.slot_str_startswith F.type_str_startswith mt_startswith ha (pa_cons hy pa_nil s1) (base_ok hb) (by rw [s1]; rfl) hl s1 rfl).weak (step fun {S H s d e w Q} sub rw' he hQ => ?_)
    cases d with
    | str t =>
      cases he
      rw [rep_str] at rw'
      subst rw'
      exact ⟨_, _, rfl, rfl, hQ _ _ (.old (fun _ z => by cases z) (rep_bl.mpr rfl))⟩
    | _ => cases he
  | split =>
    refine (pe_bm F.plainAttrs_str F.slot_str_split F.type_str_split mt_split ha (pa_cons hy pa_nil s1) (base_ok hb) (by rw [s1]; rfl) hl s1 rfl).weak (step fun {S H s d e w Q} sub rw' he hQ => ?_)
    cases d with
    | str t =>
      have he : (if (t.length == 0) = false ∧ s.length + 2 ≤ sizeLine ∧ (Txt.split s t).length ≤ sizeLine then some (D.lst ((Txt.split s t).map D.str)) else none) = some e := he
      split at he
      · rename_i hc
        cases he
        rw [rep_str] at rw'
        subst rw'
        exact ⟨_, _, rfl, rfl, hc.1, hc.2.1, fun q hq => hQ _ _ (.lst q hq (reps_strs _ _ _) (by rw [List.length_map]; exact hc.2.2))⟩
      · cases he
    | _ => cases he
  | join =>
    refine (pe_bm F.plainAttrs_str F.slot_str_join F.type_str_join mt_join ha (pa_cons hy pa_nil s1) (base_ok hb) (by rw [s1]; rfl) hl s1 rfl).weak (step fun {S H s d e w Q} sub rw' he hQ => ?_)
    cases d with
    | lst ds =>
      have he : ((strsOf ds).bind fun ys => if (ys.map (·.length)).sum + ys.length * s.length ≤ 16777216 then some (D.str (Txt.join s ys)) else none) = some e := he
      cases hn : strsOf ds with
      | none => rw [hn] at he; cases he
      | some ys =>
        rw [hn] at he
        have he : (if (ys.map (·.length)).sum + ys.length * s.length ≤ 16777216 then some (D.str (Txt.join s ys)) else none) = some e := he
        split at he
        · rename_i hc
          cases he
          rw [rep_lst] at rw'
          obtain ⟨q, vs, rfl, e1, r2⟩ := rw'
          have e2 := r2.strs hn
          subst e2
          exact ⟨_, q, ys, rfl, rfl, .inl (SqL.of (sub _ _ e1)), hc, hQ _ _ (.old (fun _ z => by cases z) (rep_str.mpr rfl))⟩
        · cases he
    | _ => cases he
end
end VI
/-! VIf: calls, walks, comprehensions. -/
namespace VI
open PySem PySem.Spec PyProof.Rows L2

/-! ### a body within a body: the frame by the heap as it stands -/
section
variable {Z : Stt} {σ : L2.St} {S S' H H' : Hp} {env env' : Env}
def ownP (own : List Nat) (σ : L2.St) (env : Env) : List (Nat × Addr) := own.filterMap fun i => match getE env i, σ[i]? with
  | some _, some (some (.ref a)) => some (i, a)
  | _, _ => none
theorem mem_ownP {own : List Nat} {p : Nat × Addr} : p ∈ ownP own σ env ↔ p.1 ∈ own ∧ getE env p.1 ≠ none ∧ σ[p.1]? = some (some (.ref p.2)) := by
  unfold ownP
  rw [List.mem_filterMap]
  constructor
  · rintro ⟨i, hi, e⟩
    split at e
    · rename_i d a h1 h2
      cases e
      exact ⟨hi, (by rw [h1]; exact fun q => by cases q), h2⟩
    · cases e
  · rintro ⟨h1, h2, h3⟩
    refine ⟨p.1, h1, ?_⟩
    cases e : getE env p.1 with
    | none => exact absurd e h2
    | some d => rw [h3]
theorem Rel.enter (R : Rel Z σ S H env) : Rel ⟨Z.W, Z.own, S, H, ownP Z.own σ env⟩ σ S H env where
  sub := R.sub
  s0 := Sub.refl S
  fr := fun _ _ e _ => e
  gr := fun _ _ _ => rfl
  sl := fun i d e => by
    obtain ⟨v, h1, h2, h3⟩ := R.sl i d e
    refine ⟨v, h1, fun z => ?_, h3⟩
    obtain ⟨a, ds, vs, x1, rfl, x3, x4, x5, _⟩ := h2 z
    exact ⟨a, ds, vs, x1, rfl, x3, x4, x5, .inr ⟨(i, a), mem_ownP.mpr ⟨z, (by rw [e]; exact fun q => by cases q), h1⟩, rfl⟩⟩
  dj := R.dj
  pa := fun p hp => by
    obtain ⟨h1, h2, h3⟩ := mem_ownP.mp hp
    exact ⟨h1, h3, h2⟩
  ln := R.ln
  sz := R.sz
theorem Rel.leave {σ' : L2.St} {P : List (Nat × Addr)} (R : Rel Z σ S H env) (hP : P = ownP Z.own σ env) (R' : Rel ⟨Z.W, Z.own, S, H, P⟩ σ' S' H' env') (hσ : ∀ i, i ∈ Z.own → σ'[i]? = σ[i]?) : Rel Z σ' S' H' env' := by
  subst hP
  have own : ∀ {p : Nat × Addr}, p ∈ ownP Z.own σ env → (∃ vs, H p.2 = some (.lst vs)) ∧ (Z.H0 p.2 = none ∨ ∃ q ∈ Z.P, q.2 = p.2) := fun {p} hp => by
    obtain ⟨h1, h2, h3⟩ := mem_ownP.mp hp
    obtain ⟨x1, _, x3⟩ := R.ownSome h1 h2 h3
    exact ⟨x1, x3⟩
  refine ⟨R'.sub, R.s0.trans R'.s0, fun b o e q => R'.fr b o (R.fr b o e q) fun p hp z => ?_, fun b o e => ?_, fun i d e => ?_, R'.dj, fun p hp => ?_, R'.ln, R'.sz⟩
  · rcases (own hp).2 with x | ⟨r, hr, x⟩
    · rw [z] at x; rw [x] at e; cases e
    · exact q r hr (x.trans z)
  · by_cases q : ∀ p ∈ Z.P, p.2 ≠ b
    · have := R'.gr b o (R.fr b o e q)
      rw [this]; exact R.gr b o e
    · obtain ⟨p, hp, rfl⟩ : ∃ p ∈ Z.P, p.2 = b := Classical.byContradiction fun z => q fun p hp e => z ⟨p, hp, e⟩
      obtain ⟨a1, a2, a3⟩ := R.pa p hp
      obtain ⟨⟨ws, e2⟩, _⟩ := R.ownSome a1 a3 a2
      have := R'.gr _ _ e2
      rw [this]; exact R.gr _ o e
  · obtain ⟨v, h1, h2, h3⟩ := R'.sl i d e
    refine ⟨v, h1, fun z => ?_, h3⟩
    obtain ⟨a, ds, vs, x1, x2, x3, x4, x5, x6⟩ := h2 z
    refine ⟨a, ds, vs, x1, x2, x3, x4, x5, ?_⟩
    rcases x6 with x6 | ⟨p, hp, rfl⟩
    · exact .inl (R.h0 x6)
    · exact (own hp).2
  · obtain ⟨x1, x2, x3⟩ := R.pa p hp
    obtain ⟨y1, y2, y3⟩ := R'.pa p (mem_ownP.mpr ⟨x1, x3, x2⟩)
    exact ⟨x1, by rw [hσ _ x1]; exact x2, y3⟩
/-- an object that is neither shared nor a slot's is changed -/
theorem Rel.poke (R : Rel Z σ S H env) {p : Addr} {o : HO} (h0 : Z.H0 p = none) (hs : S p = none) (hn : ∀ i, i ∈ Z.own → getE env i ≠ none → σ[i]? ≠ some (some (.ref p))) (z : SzO o) : Rel Z σ S (upd H p o) env where
  sub := fun b u e => by rw [upd_ne (ne_of_none e hs)]; exact R.sub b u e
  s0 := R.s0
  fr := fun b u e q => by rw [upd_ne (ne_of_none e h0)]; exact R.fr b u e q
  gr := R.gr
  sl := fun i d e => by
    obtain ⟨v, h1, h2, h3⟩ := R.sl i d e
    refine ⟨v, h1, fun w => ?_, h3⟩
    obtain ⟨a, ds, vs, x1, rfl, x3, x⟩ := h2 w
    have ne : a ≠ p := by
      rintro rfl
      exact hn i w (by rw [e]; exact fun q => by cases q) h1
    exact ⟨a, ds, vs, x1, rfl, by rw [upd_ne ne]; exact x3, x⟩
  dj := R.dj
  pa := R.pa
  ln := R.ln
  sz := R.sz.upd z
end

/-! ### calls -/
section
variable {X : Cx} {xa : Nat → Addr} {E : L2.St → XK} {Γ : Cfg} {k : Nat} {sc : Scope} {Z : Stt}
theorem cf_len {T : List Fn} {g : Nat} {f : Fn} {args : List D} (hf : T[g]? = some f) : ∀ k, (∀ z, CF T k g args = z → z ≠ .bad → args.length = f.np)
  | 0, z, e, h => absurd e.symm h
  | k + 1, z, e, h => by
    unfold CF at e
    rw [hf] at e
    simp only at e
    unfold runF at e
    split at e
    · assumption
    · exact absurd e.symm h
theorem run_g {g : Nat} {f : Fn} {pins : List (Addr × Obj)} {s : Shared} {σ : L2.St} {S H : Hp} {env : Env} {Q : VK} {args : Args} {us : List Value} {vs : List V} {os : List (Option Nat)} {ds : List D} {fd : FuncData} {ps : List Str}
    (cx : CxOk X Z.W xa E Γ k sc) (F : FnG X.prog X.w X.K X.mg X.base (L2.CX X.prog X.w) (k + 2) (Z.W.fa g) fd ps (spD Z.W xa f (CF Γ.T k g))) (hf : Γ.T[g]? = some f) (I : Inv X pins σ H s) (R : Rel Z σ S H env) (hm : mskOk f.msk os = true) (ho : ownsOk Z.own os = true) (ar : ARs Z.W σ S os ds vs) (rv : Vals vs us)
    (bt : us.length = f.np → BindsTo s fd args (ps.zip us)) (fin : Fin (Exs Z.W xa (E σ) Z) Z σ S (Vx Z σ f.fr) (callD (CF Γ.T k) g os ds env) Q) :
    wpAny (model X.prog X.w) X.A (call (.ref (Z.W.fa g)) args.pos args.kw) (EP X pins σ Q) X.xe s := by
  unfold ownsOk at ho
  rw [Bool.and_eq_true] at ho
  have ho1 : ∀ i ∈ os.filterMap id, i ∈ Z.own := fun i hi => of_decide_eq_true (List.all_eq_true.mp ho.1 i hi)
  have ho2 : (os.filterMap id).Nodup := of_decide_eq_true ho.2
  unfold callD at fin
  cases ea : argsAt os ds env with
  | none => rw [ea] at fin; exact fin.elim
  | some as =>
    rw [ea] at fin
    simp only at fin
    obtain ⟨ao, hp⟩ := args_ok R hm ho1 ar ea
    have hne : CF Γ.T k g as ≠ .bad := fun z => by rw [z] at fin; exact fin.elim
    have hlen : as.length = f.np := cf_len hf k _ rfl hne
    have hal : as.length = vs.length := by
      have key : ∀ {os : List (Option Nat)} {ds as : List D}, argsAt os ds env = some as → as.length = os.length := by
        intro os
        induction os with
        | nil => intro ds as e; cases ds <;> unfold argsAt at e <;> cases e; rfl
        | cons o os ih =>
          intro ds as e
          cases ds with
          | nil => cases o <;> unfold argsAt at e <;> cases e
          | cons d ds =>
            cases o with
            | none =>
              unfold argsAt at e
              cases q : argsAt os ds env with
              | none => rw [q] at e; cases e
              | some r => rw [q] at e; cases e; simp [ih q]
            | some i =>
              unfold argsAt at e
              split at e
              · rename_i q; cases e; simp [ih q]
              · cases e
      rw [key ea]
      exact ar.len.1
    have hvs : vs.length = f.np := by omega
    have mem : ∀ {a}, a ∈ ownAddrs f.msk vs → Z.H0 a = none ∨ ∃ p ∈ Z.P, p.2 = a := fun {a} ha => by
      obtain ⟨i, hi, h1, h2⟩ := Paired.mem_right hp ha
      exact (R.ownSome (ho1 i hi) h2 h1).2.2
    have sp : spD Z.W xa f (CF Γ.T k g) vs H Q (E σ) := by
      refine ⟨hvs, S, as, R.sub, R.sz, ao, own_nodup R ho1 ho2 hp, ?_⟩
      cases ec : CF Γ.T k g as with
      | bad => exact absurd ec hne
      | exc j d =>
        rw [ec] at fin
        intro v dx H' S' h1 h2 h3 h4 h5 h6 h7 h8 h9
        have fin : ExcOk Z.W xa (E σ) Z.S0 Z.H0 (Z.P.map (·.2)) j d := fin
        refine fin v dx H' S' (R.s0.trans h1) h2 (fun b o e hb => h3 b o (R.fr b o e fun p hp z => hb (List.mem_map.mpr ⟨p, hp, z⟩)) fun hm => ?_) (fun b o e => ?_) h5 h6 h7 (R.h0 h8) h9
        · rcases mem hm with z | ⟨p, hp, z⟩
          · rw [z] at e; cases e
          · exact hb (List.mem_map.mpr ⟨p, hp, z⟩)
        · by_cases q : ∀ p ∈ Z.P, p.2 ≠ b
          · rw [h4 b o (R.fr b o e q)]; exact R.gr b o e
          · obtain ⟨p, hp, rfl⟩ : ∃ p ∈ Z.P, p.2 = b := Classical.byContradiction fun z => q fun p hp e => z ⟨p, hp, e⟩
            obtain ⟨a1, a2, a3⟩ := R.pa p hp
            obtain ⟨⟨ws, e2⟩, _⟩ := R.ownSome a1 a3 a2
            rw [h4 _ _ e2]; exact R.gr _ o e
      | ret d outs =>
        rw [ec] at fin
        simp only at fin
        cases eo : outsAt os outs env with
        | none => rw [eo] at fin; exact fin.elim
        | some env' =>
          rw [eo] at fin
          intro v S' H' ro
          have R' := R.after ro hm ho1 ho2 ar.len.1 hp eo
          have ro' := ro
          obtain ⟨r1, r2, r3, r4, r5, r6, r7, r8⟩ := ro'
          refine fin.ok R' r1 ?_
          cases hfr : f.fr with
          | false => exact vx_of (r8 hfr)
          | true =>
            obtain ⟨p, es, ws, rfl, rfl, p1, p2, p3, p4⟩ := r7 hfr
            refine ⟨fun _ _ => ⟨p, es, ws, rfl, rfl, p2, p3, p4, R.h0 p1, fun i hi hv e => ?_⟩, fun z => by have z := z rfl; unfold isL at z; cases z⟩
            have hv' : getE env i ≠ none := by
              by_cases hio : i ∈ os.filterMap id
              · exact Paired.left_all hp i hio
              · obtain ⟨_, k2, _⟩ := outs_ok (σ := σ) hm ar.len.1 ho2 r6 (Paired.mapP hp fun x y z => ⟨z.1, getE_lt' z.2⟩) eo
                rw [k2 i hio] at hv
                exact hv
            exact R.apart p1 i hi hv' e
    have hus : us.length = f.np := by rw [← rv.length]; exact hvs
    refine wpAny_call (codeAny_mono (F.run X.A X.stack s H args us vs Q (E σ) cx.room cx.gd I.env0 (bt hus) rv sp) fun r s' hq => ?_)
    cases r with
    | error e => exact cx.tk e s' (XE.of_call I (fun _ _ _ h => h) hq)
    | ok fl =>
      cases fl with
      | ret u => exact I.after hq
      | next => exact False.elim hq
      | brk => exact False.elim hq
      | cont => exact False.elim hq
theorem okName_dbg {x : Str} (h : okName x = true) : (x == ("__debug__" : Str)) = false := by
  unfold okName at h
  rw [Bool.and_eq_true, Bool.and_eq_true] at h
  simpa using h.1.1
theorem star_plain {X : Cx} {pos : Pos} : ∀ l : List Expr, l.all notStar = true → (backTo pos (starEach l X.env)).any (·.1) = false
  | [], _ => rfl
  | x :: xs, h => by
    rw [List.all_cons, Bool.and_eq_true] at h
    rw [notStar_each (env := fun X => X.env) h.1]
    show (false || (backTo pos (starEach xs X.env)).any (·.1)) = false
    rw [star_plain xs h.2]
    rfl
theorem e_call {g : Nat} {f : Fn} {es : IEs} {x : Str} {p pos : Pos} {y : Expr} {ys : List Expr} {fr : Bool} (cx : CxOk X Z.W xa E Γ k sc) (hf : Γ.T[g]? = some f) (hx : f.name = x) (hg : glC sc x = true) (hn : okName x = true) (hst : (y :: ys).all notStar = true) (hm : mskOk f.msk es.owns = true) (ho : ownsOk Z.own es.owns = true)
    (hfr : fr = true → f.fr = true) (ha : PA X (y :: ys) (semA xa E Z (CF Γ.T k) es)) : PE X (.Call (.Name x p) (y :: ys) [] pos) (semE xa E Z (CF Γ.T k) fr (.call g es)) := by
  rw [List.all_cons, Bool.and_eq_true] at hst
  obtain ⟨fd, ps, F, hmg, kp, hb, hps, _⟩ := cx.fns g f hf
  have key : PE X (.Call (.Name x p) (y :: ys) [] pos) (semE xa E Z (CF Γ.T k) f.fr (.call g es)) := by
    refine ⟨fun pins s σ H Q I h => ?_⟩
    obtain ⟨S, env, R, fin⟩ := h
    refine wpAny_Call_Name_kw (ld_glob I (cx.glo x hg) (by rw [← hx]; exact hmg) ?_ (okName_dbg hn))
    refine PySem.W.callWith_K (h₀ := X.base) I.ok.mod.kin kp (thn (ha.run pos pins s σ H _ I ⟨S, env, R, Fin.bind fin⟩) fun us s1 ⟨vs, H1, I1, r, q⟩ => ⟨I1.kIn, ?_⟩) (notStar_each (env := fun X => X.env) hst.1) (star_plain ys hst.2)
    obtain ⟨S1, env1, ds, _, R1, hs1, v1, f1⟩ := q
    refine run_g (args := ⟨us, []⟩) cx F hf I1 R1 hm ho v1 r (fun hl => ?_) f1
    have := hb s1 us I1.kIn (by rw [List.append_nil, hl, hps])
    rwa [List.append_nil] at this
  cases hff : f.fr with
  | true =>
    rw [hff] at key
    cases fr with
    | true => exact key
    | false => exact key.weak fun σ H Q ⟨S, env, R, q⟩ => ⟨S, env, R, fin_give q⟩
  | false =>
    rw [hff] at key
    cases fr with
    | false => exact key
    | true => exact absurd (hfr rfl) (by rw [hff]; exact Bool.false_ne_true)
/-- a call without arguments -/
theorem e_call0 {g : Nat} {f : Fn} {x : Str} {p pos : Pos} {fr : Bool} (cx : CxOk X Z.W xa E Γ k sc) (hf : Γ.T[g]? = some f) (hx : f.name = x) (hg : glC sc x = true) (hn : okName x = true) (hm : f.msk = []) (hfr : fr = true → f.fr = true) : PE X (.Call (.Name x p) [] [] pos) (semE xa E Z (CF Γ.T k) fr (.call g .nil)) := by
  obtain ⟨fd, ps, F, hmg, kp, hb, hps, _⟩ := cx.fns g f hf
  have key : PE X (.Call (.Name x p) [] [] pos) (semE xa E Z (CF Γ.T k) f.fr (.call g .nil)) := by
    refine ⟨fun pins s σ H Q I h => ?_⟩
    obtain ⟨S, env, R, fin⟩ := h
    refine wpAny_Call_Name_kw (ld_glob I (cx.glo x hg) (by rw [← hx]; exact hmg) ?_ (okName_dbg hn))
    refine PySem.W.callWith_K0 I.kIn kp (run_g (args := ⟨[], []⟩) (us := []) (vs := []) (os := []) (ds := []) cx F hf I R (by rw [hm]; rfl) (by unfold ownsOk; simp) ⟨rfl, rfl⟩ .nil (fun hl => ?_) fin)
    have := hb s [] I.kIn (by rw [hps]; exact hl)
    exact this
  cases hff : f.fr with
  | true =>
    rw [hff] at key
    cases fr with
    | true => exact key
    | false => exact key.weak fun σ H Q ⟨S, env, R, q⟩ => ⟨S, env, R, fin_give q⟩
  | false =>
    rw [hff] at key
    cases fr with
    | false => exact key
    | true => exact absurd (hfr rfl) (by rw [hff]; exact Bool.false_ne_true)
theorem ars_none : ∀ {os : List (Option Nat)} {ds : List D} {vs : List V} {W : Wd} {σ : L2.St} {S : Hp}, noOwn os = true → os.length = ds.length → Reps W S ds vs → ARs W σ S os ds vs
  | [], [], _, _, _, _, _, _, r => by rw [reps_nil] at r; subst r; exact ⟨rfl, rfl⟩
  | some i :: os, _, _, _, _, _, h, _, _ => by unfold noOwn at h; simp at h
  | none :: os, d :: ds, _, _, _, _, h, hl, r => by
    unfold noOwn at h
    rw [List.all_cons, Bool.and_eq_true] at h
    rw [reps_cons] at r
    obtain ⟨v, q, rfl, x, y⟩ := r
    exact ⟨x, ars_none h.2 (by simpa using hl) y⟩
theorem msk_nil {os : List (Option Nat)} (h : noOwn os = true) : mskOk [] os = true := h
theorem owns_nil {own : List Nat} {os : List (Option Nat)} (h : noOwn os = true) : ownsOk own os = true := by
  have e0 : os.filterMap id = [] := by
    refine List.filterMap_eq_nil_iff.mpr fun o ho => ?_
    have := List.all_eq_true.mp h o ho
    cases o with
    | none => rfl
    | some i => simp at this
  unfold ownsOk
  rw [e0]
  simp
theorem fin_any {ex : Nat → D → Prop} {σ : L2.St} {S : Hp} {r : Res D} {Q : VK} {fr : Bool} (h : Fin ex Z σ S (Vx Z σ false) r Q) : Fin ex Z σ S (Vx Z σ fr) r Q := by
  cases fr with
  | false => exact h
  | true => exact fin_give h
theorem e_callv {i : Nat} {es : IEs} {x : Str} {p pos : Pos} {y : Expr} {ys : List Expr} (cx : CxOk X Z.W xa E Γ k sc) (hs : slotC Γ sc i x = true) (hi : i ∉ Z.own) (hst : (y :: ys).all notStar = true) (hn : noOwn es.owns = true)
    (ha : PA X (y :: ys) (semA xa E Z (CF Γ.T k) es)) : PE X (.Call (.Name x p) (y :: ys) [] pos) (semE xa E Z (CF Γ.T k) false (.callv i es)) := by
  rw [List.all_cons, Bool.and_eq_true] at hst
  unfold slotC at hs
  rw [Bool.and_eq_true, Bool.and_eq_true] at hs
  obtain ⟨⟨h1, h2⟩, h3⟩ := hs
  unfold okName at h3
  rw [Bool.and_eq_true, Bool.and_eq_true] at h3
  refine ⟨fun pins s σ H Q I h => ?_⟩
  obtain ⟨S, env, R, fin⟩ := h
  have fin : Fin (Exs Z.W xa (E σ) Z) Z σ S (Vx Z σ false) (match getE env i with
    | some (.fn g) => (evs (CF Γ.T k) es env).bind fun ds env1 => callD (CF Γ.T k) g es.owns ds env1
    | _ => .bad) Q := fin
  split at fin
  · rename_i g eg
    obtain ⟨v, q1, _, q2⟩ := R.sl i _ eg
    have q2 := q2 hi
    rw [rep_fn] at q2
    obtain ⟨rfl, hpl⟩ := q2
    obtain ⟨f, hf, hm⟩ := cx.pl g hpl
    obtain ⟨fd, ps, F, hmg, kp, hb, hps, _⟩ := cx.fns g f hf
    refine wpAny_Call_Name_kw (thn ((pe_var (pos := p) (i := i) (by rw [cx.N]; exact of_decide_eq_true h1) (cx.vis x h2) (by simpa using h3.1.1) (by simpa using h3.1.2)).run pins s σ H (fun v H1 => v = .ref (Z.W.fa g) ∧ H1 = H) I ⟨_, q1, rfl, rfl⟩) fun u s0 ⟨v, H0, I0, r0, z⟩ => ?_)
    obtain ⟨rfl, rfl⟩ := z
    cases r0
    refine PySem.W.callWith_K (h₀ := X.base) I.ok.mod.kin kp (thn (ha.run pos pins s0 σ _ _ I0 ⟨S, env, R, Fin.bind fin⟩) fun us s1 ⟨vs, H1, I1, r, q⟩ => ⟨I1.kIn, ?_⟩) (notStar_each (env := fun X => X.env) hst.1) (star_plain ys hst.2)
    obtain ⟨S1, env1, ds, _, R1, hs1, v1, f1⟩ := q
    refine run_g (args := ⟨us, []⟩) cx F hf I1 R1 (by rw [hm]; exact msk_nil hn) (owns_nil hn) v1 r (fun hl => ?_) (fin_any f1)
    have := hb s1 us I1.kIn (by rw [List.append_nil, hl, hps])
    rwa [List.append_nil] at this
  · exact fin.elim
theorem perm_paired {α β : Type} {F : α → β → Prop} : ∀ {perm : List Nat} {xs : List α} {ys : List β} {bs : List β}, Paired F xs ys → permL perm ys = some bs → ∃ as, permL perm xs = some as ∧ Paired F as bs := by
  intro perm
  induction perm with
  | nil => intro xs ys bs _ e; unfold permL at e; simp at e; subst e; exact ⟨[], rfl, .nil⟩
  | cons i perm ih =>
    intro xs ys bs h e
    unfold permL at e
    rw [List.mapM_cons] at e
    cases e1 : ys[i]? with
    | none => rw [e1] at e; cases e
    | some y =>
      cases e2 : permL perm ys with
      | none => unfold permL at e2; rw [e1, e2] at e; cases e
      | some r =>
        have e2' := e2
        unfold permL at e2
        rw [e1, e2] at e
        cases e
        obtain ⟨as, q1, q2⟩ := ih h e2'
        have hx : ∃ x, xs[i]? = some x ∧ F x y := by
          have : ∀ {xs : List α} {ys : List β} {i : Nat}, Paired F xs ys → ys[i]? = some y → ∃ x, xs[i]? = some x ∧ F x y := by
            intro xs ys i h
            induction h generalizing i with
            | nil => intro e; simp at e
            | cons r t ih =>
              intro e
              cases i with
              | zero => simp at e; subst e; exact ⟨_, by simp, r⟩
              | succ i => obtain ⟨x, a, b⟩ := ih (i := i) (by simpa using e); exact ⟨x, by simpa using a, b⟩
          exact this h e1
        obtain ⟨x, hx1, hx2⟩ := hx
        refine ⟨x :: as, ?_, .cons hx2 q2⟩
        unfold permL at q1 ⊢
        rw [List.mapM_cons, hx1, q1]
        rfl
theorem perm_len {α : Type} : ∀ {perm : List Nat} {xs as : List α}, permL perm xs = some as → as.length = perm.length := by
  intro perm
  induction perm with
  | nil => intro xs as e; unfold permL at e; simp at e; subst e; rfl
  | cons i perm ih =>
    intro xs as e
    unfold permL at e
    rw [List.mapM_cons] at e
    cases e1 : xs[i]? with
    | none => rw [e1] at e; cases e
    | some y =>
      cases e2 : permL perm xs with
      | none => unfold permL at e2; rw [e1, e2] at e; cases e
      | some r =>
        have := ih e2
        unfold permL at e2
        rw [e1, e2] at e
        cases e
        simp [this]
theorem perm_reps {W : Wd} {S : Hp} : ∀ {perm : List Nat} {ds : List D} {vs : List V} {as : List D} {ws : List V}, Reps W S ds vs → permL perm ds = some as → permL perm vs = some ws → Reps W S as ws := by
  intro perm
  induction perm with
  | nil => intro ds vs as ws _ e1 e2; unfold permL at e1 e2; simp at e1 e2; subst e1 e2; exact reps_nil.mpr rfl
  | cons i perm ih =>
    intro ds vs as ws h e1 e2
    unfold permL at e1 e2
    rw [List.mapM_cons] at e1 e2
    cases a1 : ds[i]? with
    | none => rw [a1] at e1; cases e1
    | some d =>
      obtain ⟨v, a2, r⟩ := h.get a1
      rw [a1] at e1
      rw [a2] at e2
      cases b1 : permL perm ds with
      | none => unfold permL at b1; rw [b1] at e1; cases e1
      | some q1 =>
        cases b2 : permL perm vs with
        | none => unfold permL at b2; rw [b2] at e2; cases e2
        | some q2 =>
          have := ih h b1 b2
          unfold permL at b1 b2
          rw [b1] at e1
          rw [b2] at e2
          cases e1
          cases e2
          exact reps_cons.mpr ⟨_, _, rfl, r, this⟩
theorem kw_all {X : Cx} {pos : Pos} : ∀ {kws : List Keyword} {ns : List Str}, kwNames kws = some ns → (backToKw pos (keywordEach kws X.env)).all (·.1.isSome) = true ∧ (backToKw pos (keywordEach kws X.env)).filterMap (·.1) = ns ∧ (backToKw pos (keywordEach kws X.env)).any (·.1.isNone) = false
  | [], _, e => by unfold kwNames at e; cases e; exact ⟨rfl, rfl, rfl⟩
  | ⟨some x, v, p⟩ :: r, ns, e => by
    unfold kwNames at e
    cases q : kwNames r with
    | none => rw [q] at e; cases e
    | some ms =>
      rw [q] at e
      cases e
      obtain ⟨h1, h2, h3⟩ := kw_all (X := X) (pos := pos) q
      refine ⟨?_, ?_, ?_⟩
      · show (true && (backToKw pos (keywordEach r X.env)).all (·.1.isSome)) = true
        rw [h1]; rfl
      · show (x :: (backToKw pos (keywordEach r X.env)).filterMap (·.1)) = x :: ms
        rw [h2]
      · show (false || (backToKw pos (keywordEach r X.env)).any (·.1.isNone)) = false
        rw [h3]; rfl
  | ⟨none, v, p⟩ :: r, ns, e => by unfold kwNames at e; cases e
theorem kw_len : ∀ {kws : List Keyword} {ns : List Str}, kwNames kws = some ns → ns.length = kws.length
  | [], _, e => by unfold kwNames at e; cases e; rfl
  | ⟨some x, v, p⟩ :: r, ns, e => by
    unfold kwNames at e
    cases q : kwNames r with
    | none => rw [q] at e; cases e
    | some ms => rw [q] at e; cases e; simp [kw_len q]
  | ⟨none, v, p⟩ :: r, ns, e => by unfold kwNames at e; cases e
theorem e_callk {g : Nat} {f : Fn} {perm : List Nat} {es ks : IEs} {x : Str} {p pos : Pos} {ys : List Expr} {kws : List Keyword} {ns : List Str} (cx : CxOk X Z.W xa E Γ k sc) (hf : Γ.T[g]? = some f) (hx : f.name = x) (hg : glC sc x = true) (hn : okName x = true) (hst : ys.all notStar = true) (hm : f.msk = []) {fr : Bool} (hfr : (!fr || f.fr) = true)
    (hp : perm.length = f.np) (hk : kwNames kws = some ns) (hkb : (g, ys.length, ns, perm) ∈ Γ.kb) (h1 : noOwn es.owns = true) (h2 : noOwn ks.owns = true) (hl1 : es.owns.length = ys.length) (hl2 : ks.owns.length = kws.length)
    (ha : PA X ys (semA xa E Z (CF Γ.T k) es)) (hkw : PK X kws (semA xa E Z (CF Γ.T k) ks)) : PE X (.Call (.Name x p) ys kws pos) (semE xa E Z (CF Γ.T k) fr (.callk g perm es ks)) := by
  suffices key : PE X (.Call (.Name x p) ys kws pos) (semE xa E Z (CF Γ.T k) f.fr (.callk g perm es ks)) by
    cases hff : f.fr with
    | true =>
      rw [hff] at key
      cases fr with
      | true => exact key
      | false => exact key.weak fun σ H Q ⟨S, env, R, q⟩ => ⟨S, env, R, fin_give q⟩
    | false =>
      rw [hff] at key hfr
      cases fr with
      | false => exact key
      | true => simp at hfr
  obtain ⟨fd, ps, F, hmg, kp, hb, hps, hKB⟩ := cx.fns g f hf
  obtain ⟨q1, q2, q3⟩ := kw_all (X := X) (pos := pos) hk
  refine ⟨fun pins s σ H Q I h => ?_⟩
  obtain ⟨S, env, R, fin⟩ := h
  refine wpAny_Call_Name_kw (ld_glob I (cx.glo x hg) (by rw [← hx]; exact hmg) ?_ (okName_dbg hn))
  have fin : Fin (Exs Z.W xa (E σ) Z) Z σ S (Vx Z σ f.fr) ((evs (CF Γ.T k) es env).bind fun ds env1 => (evs (CF Γ.T k) ks env1).bind fun zs env2 => match permL perm (ds ++ zs), permL perm (es.owns ++ ks.owns) with
    | some ds', some os => callD (CF Γ.T k) g os ds' env2
    | _, _ => .bad) Q := fin
  -- behind the arguments
  have tail : ∀ {us ws : List Value} {vs zs : List V} {s2 : Shared} {H2 S1 S2 : Hp} {env2 : Env} {ds dz : List D}, Inv X pins σ H2 s2 → Rel Z σ S2 H2 env2 → Sub S1 S2 → ARs Z.W σ S1 es.owns ds vs → ARs Z.W σ S2 ks.owns dz zs → Vals vs us → Vals zs ws →
      Fin (Exs Z.W xa (E σ) Z) Z σ S2 (Vx Z σ f.fr) (match permL perm (ds ++ dz), permL perm (es.owns ++ ks.owns) with
        | some ds', some os => callD (CF Γ.T k) g os ds' env2
        | _, _ => .bad) Q → wpAny (model X.prog X.w) X.A (call (.ref (Z.W.fa g)) us (ns.zip ws)) (EP X pins σ Q) X.xe s2 := fun {us ws vs zs s2 H2 S1 S2 env2 ds dz} I2 R2 hs a1 a2 r1 r2 f2 => by
    have l1 := a1.len
    have l2 := a2.len
    obtain ⟨bs, e1, bt⟩ := (hKB _ _ _ hkb).to s2 us ws I2.kIn (by rw [← r1.length, ← l1.1]; exact hl1) (by rw [← r2.length, ← l2.1, hl2, kw_len hk])
    obtain ⟨cs, e2, rc⟩ := perm_paired (r1.append r2) e1
    split at f2
    · rename_i ds' os e3 e4
      have rr : Reps Z.W S2 (ds ++ dz) (vs ++ zs) := ((a1.none h1).mono hs).append (a2.none h2)
      have rp := perm_reps rr e3 e2
      have hno : noOwn os = true := by
        have key : ∀ {perm : List Nat} {xs os : List (Option Nat)}, xs.all (·.isNone) = true → permL perm xs = some os → os.all (·.isNone) = true := by
          intro perm
          induction perm with
          | nil => intro xs os _ e; unfold permL at e; simp at e; subst e; rfl
          | cons i perm ih =>
            intro xs os hx e
            unfold permL at e
            rw [List.mapM_cons] at e
            cases b1 : xs[i]? with
            | none => rw [b1] at e; cases e
            | some o =>
              cases b2 : permL perm xs with
              | none => unfold permL at b2; rw [b1, b2] at e; cases e
              | some r =>
                have := ih hx b2
                unfold permL at b2
                rw [b1, b2] at e
                cases e
                rw [List.all_cons, Bool.and_eq_true]
                exact ⟨List.all_eq_true.mp hx o (List.mem_of_getElem? b1), this⟩
        refine key (xs := es.owns ++ ks.owns) ?_ e4
        rw [List.all_append, Bool.and_eq_true]
        exact ⟨h1, h2⟩
      refine run_g (args := ⟨us, ns.zip ws⟩) (us := bs) (vs := cs) cx F hf I2 R2 (by rw [hm]; exact msk_nil hno) (owns_nil hno) (ars_none hno (by rw [perm_len e3, perm_len e4]) rp) rc (fun _ => bt) f2
    · exact f2.elim
  cases ys with
  | nil =>
    have e0 : es = .nil := by
      cases es with
      | nil => rfl
      | cons e es => cases e <;> simp [IEs.owns] at hl1
    subst e0
    refine PySem.W.callWith_KW0 (h₀ := X.base) I.ok.mod.kin kp q1 (thn (hkw.run pos pins s σ H _ I ⟨S, env, R, Fin.bind fin⟩) fun ws s2 ⟨zs, H2, I2, rz, q⟩ => ⟨I2.kIn, ?_⟩) (by show (false || _) = false; rw [q3]; rfl)
    obtain ⟨S2, env2, dz, _, R2, hs2, v2, f2⟩ := q
    rw [q2]
    exact tail (us := []) (vs := []) (ds := []) (S1 := S2) I2 R2 (Sub.refl _) ⟨rfl, rfl⟩ v2 .nil rz f2
  | cons y ys =>
    rw [List.all_cons, Bool.and_eq_true] at hst
    refine PySem.W.callWith_KW (h₀ := X.base) I.ok.mod.kin kp q1 (thn (ha.run pos pins s σ H _ I ⟨S, env, R, Fin.bind fin⟩) fun us s1 ⟨vs, H1, I1, r, q⟩ => ?_) (by rw [star_plain (y :: ys) (by rw [List.all_cons, Bool.and_eq_true]; exact hst), q3]; rfl) (notStar_each (env := fun X => X.env) hst.1)
    obtain ⟨S1, env1, ds, _, R1, hs1, v1, f1⟩ := q
    refine thn (hkw.run pos pins s1 σ H1 _ I1 ⟨S1, env1, R1, Fin.bind f1⟩) fun ws s2 ⟨zs, H2, I2, rz, q⟩ => ⟨I2.kIn, ?_⟩
    obtain ⟨S2, env2, dz, _, R2, hs2, v2, f2⟩ := q
    rw [q2]
    exact tail I2 R2 hs2 v1 v2 r rz f2
end
end VI
/-! VIg: walks, targets, comprehensions. -/
namespace VI
open PySem PySem.Spec PyProof.Rows L2

/-! ### targets -/
def gIs : List Nat → TGs
  | [] => gNil
  | i :: is => gCons (gName i) (gIs is)
def gIT (K : PySem.W.Frag) : IT → TG
  | .nm i => gName i
  | .tp is => gTup K is.length (gIs is)
section
variable {X : Cx} {xa : Nat → Addr} {E : L2.St → XK} {Γ : Cfg} {k : Nat} {sc : Scope} {W : Wd}
theorem g_name {i : Nat} {x : Str} {p : Pos} (cx : CxOk X W xa E Γ k sc) (h : Γ.N[i]? = some x) (hl : locC sc x = true) : PG X (.Name x p) (gName i) :=
  pg_name cx.nd (by rw [cx.N]; exact h) (cx.loc x hl).1 (cx.loc x hl).2
theorem nmC_name {i : Nat} {x : Expr} (h : nmC Γ sc (i, x) = true) : ∃ n p, x = .Name n p ∧ Γ.N[i]? = some n ∧ locC sc n = true := by
  unfold nmC at h
  simp only at h
  split at h
  · rename_i n p
    rw [Bool.and_eq_true] at h
    exact ⟨n, p, rfl, of_decide_eq_true h.1, h.2⟩
  · cases h
theorem g_names (cx : CxOk X W xa E Γ k sc) : ∀ {is : List Nat} {xs : List Expr}, is.length = xs.length → (is.zip xs).all (nmC Γ sc) = true → PGs X xs (gIs is) ∧ (assignEach xs X.env).length = is.length ∧ (assignEach xs X.env).findIdx? (·.1) = none
  | [], [], _, _ => ⟨pgs_nil, rfl, rfl⟩
  | i :: is, x :: xs, hl, h => by
    rw [List.zip_cons_cons, List.all_cons, Bool.and_eq_true] at h
    obtain ⟨n, p, rfl, h1, h2⟩ := nmC_name h.1
    obtain ⟨k1, k2, k3⟩ := g_names cx (is := is) (xs := xs) (by simpa using hl) h.2
    refine ⟨pgs_cons (g_name cx h1 h2) k1, ?_, ?_⟩
    · show (assignEach xs X.env).length + 1 = is.length + 1
      rw [k2]
    · show List.findIdx? (·.1) ((false, assign (.Name n p) X.env) :: assignEach xs X.env) = none
      rw [List.findIdx?_cons, k3]
      rfl
  | [], _ :: _, hl, _ => by simp at hl
  | _ :: _, [], hl, _ => by simp at hl
theorem g_it {t : IT} {e : Expr} (cx : CxOk X W xa E Γ k sc) (h : itC Γ sc t e = true) : PG X e (gIT X.K t) := by
  cases t with
  | nm i =>
    cases e <;> first | (unfold itC at h; cases h) | skip
    rename_i x p
    unfold itC at h
    rw [Bool.and_eq_true] at h
    exact g_name cx (of_decide_eq_true h.1) h.2
  | tp is =>
    cases e <;> first | (unfold itC at h; cases h) | skip
    rename_i xs kk p
    unfold itC at h
    rw [Bool.and_eq_true] at h
    obtain ⟨k1, k2, k3⟩ := g_names cx (of_decide_eq_true h.1) h.2
    exact pg_tup (n := is.length) cx.calm k1 k2 k3
end
/-- a target's stores, in the state -/
theorem names_rel {W : Wd} {Q : L2.St → Hp → Prop} : ∀ {is : List Nat} {ds : List D} {vs : List V} {Z : Stt} {σ : L2.St} {S H : Hp} {env : Env}, Rel Z σ S H env → ds.length = is.length → is.all (· < env.length) = true → (∀ p ∈ Z.P, p.1 ∉ is) → Reps Z.W S ds vs →
    (∀ σ' own', (∀ i, i ∈ own' ↔ i ∈ Z.own ∧ i ∉ is) → Rel { Z with own := own' } σ' S H ((is.zip ds).foldl (fun e p => e.set p.1 (some p.2)) env) → (∀ j, j ∉ is → σ'[j]? = σ[j]?) → Q σ' H) → gIs is vs σ H Q
  | [], [], vs, Z, σ, S, H, env, R, _, _, _, r, h => by
    rw [reps_nil] at r
    subst r
    exact ⟨rfl, h σ Z.own (fun i => by simp) R fun _ _ => rfl⟩
  | i :: is, d :: ds, vs, Z, σ, S, H, env, R, hl, hb, hp, r, h => by
    rw [reps_cons] at r
    obtain ⟨v, q, rfl, x, y⟩ := r
    rw [List.all_cons, Bool.and_eq_true] at hb
    have hi : i < env.length := by simpa using hb.1
    have R1 := R.store hi (fun p hpp e => hp p hpp (by simp [e])) x
    refine ⟨v, q, rfl, ?_⟩
    show gIs is q (σ.set i (some v)) H Q
    refine names_rel (ds := ds) (W := W) R1 (by simpa using hl) (by rw [List.length_set]; exact hb.2) (fun p hpp e => hp p hpp (List.mem_cons_of_mem _ e)) y fun σ' own' ho R2 hs => ?_
    refine h σ' own' (fun j => ?_) R2 fun j hj => ?_
    · rw [ho]
      simp only [List.mem_filter, decide_eq_true_eq, List.mem_cons, not_or]
      constructor
      · rintro ⟨⟨a, b⟩, c⟩; exact ⟨a, by simpa using b, c⟩
      · rintro ⟨a, b, c⟩; exact ⟨⟨a, by simpa using b⟩, c⟩
    · have h1 : j ≠ i ∧ j ∉ is := by simpa using hj
      rw [hs j h1.2, List.getElem?_set_ne (Ne.symm h1.1)]
  | [], _ :: _, _, _, _, _, _, _, _, hl, _, _, _, _ => by simp at hl
  | _ :: _, [], _, _, _, _, _, _, _, hl, _, _, _, _ => by simp at hl
theorem target_rel {t : IT} {d : D} {v : V} {Z : Stt} {σ : L2.St} {S H : Hp} {env env' : Env} {Q : L2.St → Hp → Prop} (R : Rel Z σ S H env) (hb : bindT t d env = some env') (hp : ∀ p ∈ Z.P, p.1 ∉ t.slots) (r : Rep Z.W S d v)
    (h : ∀ σ' own', (∀ i, i ∈ own' ↔ i ∈ Z.own ∧ i ∉ t.slots) → Rel { Z with own := own' } σ' S H env' → (∀ j, j ∉ t.slots → σ'[j]? = σ[j]?) → Q σ' H) : gIT Z.W.K t v σ H Q := by
  cases t with
  | nm i =>
    unfold bindT at hb
    simp only at hb
    split at hb
    · rename_i hi
      cases hb
      refine h _ _ (fun j => ?_) (R.store hi (fun p hpp e => hp p hpp (by simp [IT.slots, e])) r) fun j hj => ?_
      · simp [IT.slots]
      · have : j ≠ i := by simpa [IT.slots] using hj
        rw [List.getElem?_set_ne (Ne.symm this)]
    · cases hb
  | tp is =>
    unfold bindT at hb
    simp only at hb
    split at hb
    · rename_i ds
      split at hb
      · rename_i hc
        cases hb
        rw [rep_tup] at r
        obtain ⟨a, vs, rfl, e, rs⟩ := r
        exact ⟨a, vs, rfl, SqT.of (R.sub _ _ e), by rw [← rs.length]; exact hc.1, names_rel (W := Z.W) R hc.1 hc.2 hp rs h⟩
      · cases hb
    · cases hb

/-! ### what is walked -/
section
variable {X : Cx} {xa : Nat → Addr} {E : L2.St → XK} {Γ : Cfg} {k : Nat} {sc : Scope} {Z : Stt} {C : CT} {tg : Expr}
theorem pi_or {it : Expr} {w1 w2 : TI} (h1 : PI X tg it w1) (h2 : PI X tg it w2) : PI X tg it (fun σ H R => w1 σ H R ∨ w2 σ H R) := ⟨fun pins s σ H R I h => h.elim (h1.run pins s σ H R I) (h2.run pins s σ H R I)⟩
theorem pi_weak {it : Expr} {w w' : TI} (h : PI X tg it w) (hq : ∀ σ H R, w' σ H R → w σ H R) : PI X tg it w' := ⟨fun pins s σ H R I q => h.run pins s σ H R I (hq σ H R q)⟩
theorem walk_list {W : Wd} {K : PySem.W.Frag} {S : Hp} {a : Addr} {ds : List D} {vs : List V} (e : SqL K S a vs) (r : Reps W S ds vs) : Walk W S (Itl K a) ds where
  go := fun i H h hi => ⟨vs, vs[i]'(by rw [← r.length]; exact hi), h.seq e, List.getElem?_eq_getElem _⟩
  stop := fun i H h hi => ⟨vs, h.seq e, by rw [← r.length]; exact hi⟩
  yld := fun i H x H' d h y hd => by
    obtain ⟨rfl, y⟩ := y
    obtain ⟨v, h1, h2⟩ := r.get hd
    rw [y vs (h.seq e)] at h1
    cases h1
    exact .inl ⟨rfl, h2⟩
theorem Sub.seqT {K : PySem.W.Frag} {S H : Hp} {a : Addr} {xs : List V} (e : Sub S H) (h : SqT K S a xs) : SqT K H a xs := by
  rcases h with (h | ⟨o, h⟩) | h
  · exact .inl (.inl (e _ _ h))
  · exact .inl (.inr ⟨o, e _ _ h⟩)
  · exact .inr h
theorem walk_tup {W : Wd} {K : PySem.W.Frag} {S : Hp} {a : Addr} {ds : List D} {vs : List V} (e : SqT K S a vs) (r : Reps W S ds vs) : Walk W S (Itt K a) ds where
  go := fun i H h hi => ⟨vs, vs[i]'(by rw [← r.length]; exact hi), h.seqT e, List.getElem?_eq_getElem _⟩
  stop := fun i H h hi => ⟨vs, h.seqT e, by rw [← r.length]; exact hi⟩
  yld := fun i H x H' d h y hd => by
    obtain ⟨rfl, y⟩ := y
    obtain ⟨v, h1, h2⟩ := r.get hd
    rw [y vs (h.seqT e)] at h1
    cases h1
    exact .inl ⟨rfl, h2⟩
theorem range_len : ∀ (n : Nat) (lo : Int), (rangeD lo n).length = n
  | 0, _ => rfl
  | n + 1, lo => by unfold rangeD; rw [List.length_cons, range_len n]
theorem range_get : ∀ (n : Nat) (lo : Int) (i : Nat) (d : D), (rangeD lo n)[i]? = some d → d = .int (lo + i)
  | 0, _, i, d, h => by simp [rangeD] at h
  | n + 1, lo, 0, d, h => by unfold rangeD at h; simp at h; rw [← h]; simp
  | n + 1, lo, i + 1, d, h => by
    unfold rangeD at h
    rw [List.getElem?_cons_succ] at h
    have e := range_get n (lo + 1) i d h
    have q : lo + 1 + (i : Int) = lo + ((i + 1 : Nat) : Int) := by omega
    rw [← q]
    exact e
theorem walk_rng {W : Wd} {S : Hp} {lo : Int} {n : Nat} : Walk W S (Itr lo n) (rangeD lo n) where
  go := fun i H _ hi => by rw [range_len] at hi; exact hi
  stop := fun i H _ hi => by rw [range_len] at hi; exact hi
  yld := fun i H x H' d _ y hd => by
    obtain ⟨rfl, rfl⟩ := y
    exact .inl ⟨rfl, by rw [range_get n lo i d hd]; exact rep_int.mpr rfl⟩
theorem enum_len : ∀ (xs : List D) (i : Nat), (enumD i xs).length = xs.length
  | [], _ => rfl
  | x :: xs, i => by unfold enumD; rw [List.length_cons, List.length_cons, enum_len xs]
theorem enum_get : ∀ (xs : List D) (j i : Nat) (d : D), (enumD j xs)[i]? = some d → ∃ x, xs[i]? = some x ∧ d = .tup [.int ((j + i : Nat) : Int), x]
  | [], _, i, d, h => by simp [enumD] at h
  | x :: xs, j, 0, d, h => by unfold enumD at h; simp at h; exact ⟨x, by simp, by rw [← h]; simp⟩
  | x :: xs, j, i + 1, d, h => by
    unfold enumD at h
    rw [List.getElem?_cons_succ] at h
    obtain ⟨y, h1, h2⟩ := enum_get xs (j + 1) i d h
    refine ⟨y, by rw [List.getElem?_cons_succ]; exact h1, ?_⟩
    have q : j + 1 + i = j + (i + 1) := by omega
    rw [← q]
    exact h2
theorem walk_enum {W : Wd} {K : PySem.W.Frag} {S : Hp} {a : Addr} {ds : List D} {vs : List V} (e : SqL K S a vs) (r : Reps W S ds vs) : Walk W S (Ite K a) (enumD 0 ds) where
  go := fun i H h hi => ⟨vs, vs[i]'(by rw [← r.length]; rw [enum_len] at hi; exact hi), h.seq e, List.getElem?_eq_getElem _⟩
  stop := fun i H h hi => ⟨vs, h.seq e, by rw [← r.length]; rw [enum_len] at hi; exact hi⟩
  yld := fun i H x H' d h y hd => by
    obtain ⟨T, u, rfl, hT, rfl, y⟩ := y
    obtain ⟨z, h1, rfl⟩ := enum_get ds 0 i d hd
    obtain ⟨v, h2, h3⟩ := r.get h1
    rw [y vs (h.seq e)] at h2
    cases h2
    refine .inr ⟨T, _, _, hT, rfl, rfl, rfl, ?_, Nat.le_refl 2⟩
    rw [Nat.zero_add]
    exact reps_cons.mpr ⟨_, _, rfl, rep_int.mpr rfl, reps_cons.mpr ⟨_, _, rfl, h3, reps_nil.mpr rfl⟩⟩
theorem zip_get : ∀ (xs ys : List D) (i : Nat) (d : D), (zipD xs ys)[i]? = some d → ∃ x y, xs[i]? = some x ∧ ys[i]? = some y ∧ d = .tup [x, y]
  | x :: xs, y :: ys, 0, d, h => by unfold zipD at h; simp at h; exact ⟨x, y, by simp, by simp, h.symm⟩
  | x :: xs, y :: ys, i + 1, d, h => by
    unfold zipD at h
    rw [List.getElem?_cons_succ] at h
    obtain ⟨a, b, h1, h2, h3⟩ := zip_get xs ys i d h
    exact ⟨a, b, by rw [List.getElem?_cons_succ]; exact h1, by rw [List.getElem?_cons_succ]; exact h2, h3⟩
  | [], _, i, d, h => by simp [zipD] at h
  | _ :: _, [], i, d, h => by simp [zipD] at h
theorem zip_len : ∀ (xs ys : List D), (zipD xs ys).length = min xs.length ys.length
  | x :: xs, y :: ys => by unfold zipD; simp only [List.length_cons, zip_len xs ys]; omega
  | [], _ => by simp [zipD]
  | _ :: _, [] => by simp [zipD]
theorem walk_zip {W : Wd} {K : PySem.W.Frag} {S : Hp} {a b : Addr} {ds es : List D} {vs ws : List V} (e : SqL K S a vs) (r : Reps W S ds vs) (e2 : SqL K S b ws) (r2 : Reps W S es ws) : Walk W S (Itz K a b) (zipD ds es) where
  go := fun i H h hi => by
    rw [zip_len, r.length, r2.length] at hi
    exact ⟨vs, ws, vs[i]'(by omega), ws[i]'(by omega), h.seq e, h.seq e2, List.getElem?_eq_getElem _, List.getElem?_eq_getElem _⟩
  stop := fun i H h hi => by
    rw [zip_len, r.length, r2.length] at hi
    exact ⟨vs, ws, h.seq e, h.seq e2, by omega⟩
  yld := fun i H x H' d h y hd => by
    obtain ⟨T, u, w, rfl, hT, rfl, y1, y2⟩ := y
    obtain ⟨p, q, h1, h2, rfl⟩ := zip_get ds es i d hd
    obtain ⟨v, h3, h4⟩ := r.get h1
    obtain ⟨v', h5, h6⟩ := r2.get h2
    rw [y1 vs (h.seq e)] at h3
    rw [y2 ws (h.seq e2)] at h5
    cases h3
    cases h5
    exact .inr ⟨T, _, _, hT, rfl, rfl, rfl, reps_cons.mpr ⟨_, _, rfl, h4, reps_cons.mpr ⟨_, _, rfl, h6, reps_nil.mpr rfl⟩⟩, Nat.le_refl 2⟩
theorem i_val {e : IE} {it : Expr} (cx : CxOk X Z.W xa E Γ k sc) (ha : PE X it (semE xa E Z C false e)) : PI X tg it (semI xa E Z C (.val e)) := by
  refine pi_weak (pi_or (pi_list ha) (pi_or (pi_tup ha) (pi_str ha))) fun σ H R h => ?_
  obtain ⟨S, env, Rl, f⟩ := h
  have f : Fin (Exs Z.W xa (E σ) Z) Z σ S (Vi Z) ((ev C e env).bind fun x env1 => lift (itemsD x) env1) R := f
  have g := Fin.bind (V1 := Vx Z σ false) f
  cases he : ev C e env with
  | exc j d => rw [he] at f; exact .inl ⟨S, env, Rl, by rw [he]; exact f⟩
  | bad => rw [he] at f; exact f.elim
  | ok d0 env0 =>
    cases d0 with
    | lst xs =>
      refine .inl ⟨S, env, Rl, g.post fun v H1 q => ?_⟩
      obtain ⟨S1, env1, d1, e1, R1, hs1, v1, f1⟩ := q
      rw [he] at e1
      cases e1
      have r := vx_false v1
      rw [rep_lst] at r
      obtain ⟨a, vs, rfl, e2, r2⟩ := r
      exact ⟨a, rfl, ⟨vs, SqL.of (R1.sub _ _ e2)⟩, Fin.ok (a := xs) f1 R1 (Sub.refl _) (walk_list (SqL.of e2) r2)⟩
    | tup xs =>
      refine .inr (.inl ⟨S, env, Rl, g.post fun v H1 q => ?_⟩)
      obtain ⟨S1, env1, d1, e1, R1, hs1, v1, f1⟩ := q
      rw [he] at e1
      cases e1
      have r := vx_false v1
      rw [rep_tup] at r
      obtain ⟨a, vs, rfl, e2, r2⟩ := r
      exact ⟨a, rfl, ⟨vs, SqT.of (R1.sub _ _ e2)⟩, Fin.ok (a := xs) f1 R1 (Sub.refl _) (walk_tup (SqT.of e2) r2)⟩
    | scr ns =>
      refine .inl ⟨S, env, Rl, g.post fun v H1 q => ?_⟩
      obtain ⟨S1, env1, d1, e1, R1, hs1, v1, f1⟩ := q
      rw [he] at e1
      cases e1
      have r := vx_false v1
      rw [rep_scr] at r
      obtain ⟨a, rfl, e2⟩ := r
      rw [cx.K] at e2
      exact ⟨a, rfl, ⟨_, R1.sub.seq e2⟩, Fin.ok (a := ns.map D.int) f1 R1 (Sub.refl _) (walk_list e2 (reps_ints _ _ ns))⟩
    | str x =>
      refine .inr (.inr ⟨S, env, Rl, g.post fun v H1 q => ?_⟩)
      obtain ⟨S1, env1, d1, e1, R1, hs1, v1, f1⟩ := q
      rw [he] at e1
      cases e1
      have r := vx_false v1
      rw [rep_str] at r
      refine ⟨x, r, Fin.ok (a := x.cps.toList.map fun c => D.str ⟨#[c]⟩) f1 R1 (Sub.refl _) ⟨fun i H _ hi => ?_, fun i H _ hi => ?_, fun i H y H' d _ q hd => ?_⟩⟩
      · rw [List.length_map, Array.length_toList] at hi; exact hi
      · rw [List.length_map, Array.length_toList] at hi; exact hi
      · obtain ⟨rfl, c, hc, rfl⟩ := q
        rw [List.getElem?_map, Array.getElem?_toList, hc] at hd
        cases hd
        exact .inl ⟨rfl, rep_str.mpr rfl⟩
    | non => rw [he] at f; exact f.elim
    | bl => rw [he] at f; exact f.elim
    | int => rw [he] at f; exact f.elim
    | ty => rw [he] at f; exact f.elim
    | fn => rw [he] at f; exact f.elim
    | exn => rw [he] at f; exact f.elim
theorem rng_of {n : Int} (h : rngOk n = true) : -(2 ^ 62) ≤ n ∧ n < 2 ^ 62 := by
  unfold rngOk at h
  rw [Bool.and_eq_true] at h
  exact ⟨of_decide_eq_true h.1, of_decide_eq_true h.2⟩
theorem star1 {e : Expr} (h : notStar e = true) : starEach [e] X.env = [(false, eval e X.env)] := notStar_each (env := fun X => X.env) h
theorem i_rng {e : IE} {x : Expr} {p pos : Pos} (cx : CxOk X Z.W xa E Γ k sc) (hg : glC sc "range" = true) (hs : notStar x = true) (ha : PE X x (semE xa E Z C false e)) : PI X tg (.Call (.Name "range" p) [x] [] pos) (semI xa E Z C (.rng e)) := by
  refine pi_weak (pi_range1 (cx.glo _ hg) (cx.bl _ (by decide)) (pa_cons ha pa_nil (star1 hs)) (star1 hs)) fun σ H R h => ?_
  obtain ⟨S, env, Rl, f⟩ := h
  refine ⟨S, env, Rl, (Fin.bind (V1 := Vx Z σ false) f).post fun v H1 q => ?_⟩
  obtain ⟨S1, env1, d1, e1, R1, hs1, v1, f1⟩ := q
  cases d1 with
  | int n =>
    simp only at f1
    split at f1
    · rename_i hn
      have r := vx_false v1
      rw [rep_int] at r
      subst r
      obtain ⟨n1, n2⟩ := rng_of hn
      exact ⟨n, rfl, n1, n2, f1.ok R1 (Sub.refl _) walk_rng⟩
    · exact f1.elim
  | _ => exact f1.elim
theorem i_rng2 {a b : IE} {x y : Expr} {p pos : Pos} (cx : CxOk X Z.W xa E Γ k sc) (hg : glC sc "range" = true) (hs : notStar x = true) (hs2 : notStar y = true) (ha : PE X x (semE xa E Z C false a)) (hb : PE X y (semE xa E Z C false b)) : PI X tg (.Call (.Name "range" p) [x, y] [] pos) (semI xa E Z C (.rng2 a b)) := by
  have s2 := star1 (X := X) hs2
  have s1 : starEach [x, y] X.env = (false, eval x X.env) :: starEach [y] X.env := notStar_each (env := fun X => X.env) hs
  refine pi_weak (pi_range2 (cx.glo _ hg) (cx.bl _ (by decide)) (pa_cons ha (pa_cons hb pa_nil s2) s1) (by rw [s1, s2]) s2) fun σ H R h => ?_
  obtain ⟨S, env, Rl, f⟩ := h
  refine ⟨S, env, Rl, (Fin.bind (V1 := Vx Z σ false) f).post fun v H1 q => ?_⟩
  obtain ⟨S1, env1, d1, e1, R1, hs1, v1, f1⟩ := q
  refine ⟨S1, env1, R1, (Fin.bind (V1 := Vx Z σ false) f1).post fun w H2 q => ?_⟩
  obtain ⟨S2, env2, d2, e2, R2, hs2, v2, f2⟩ := q
  cases d1 with
  | int i =>
    cases d2 with
    | int j =>
      simp only at f2
      split at f2
      · rename_i hn
        rw [Bool.and_eq_true] at hn
        have r := vx_false v1
        have r' := vx_false v2
        rw [rep_int] at r r'
        subst r r'
        obtain ⟨n1, n2⟩ := rng_of hn.1
        obtain ⟨n3, n4⟩ := rng_of hn.2
        exact ⟨i, j, rfl, ⟨n1, n2, n3, n4⟩, f2.ok R2 (Sub.refl _) walk_rng⟩
      · exact f2.elim
    | _ => exact f2.elim
  | _ => exact f2.elim
theorem i_enum {e : IE} {x : Expr} {p pos tpos : Pos} {elts : List Expr} {kk : Nat} (cx : CxOk X Z.W xa E Γ k sc) (hg : glC sc "enumerate" = true) (hs : notStar x = true) (ha : PE X x (semE xa E Z C false e)) : PI X (.Tuple elts kk tpos) (.Call (.Name "enumerate" p) [x] [] pos) (semI xa E Z C (.enum e)) := by
  refine pi_weak (pi_enum (cx.glo _ hg) (cx.bl _ (by decide)) (pa_cons ha pa_nil (star1 hs)) (star1 hs)) fun σ H R h => ?_
  obtain ⟨S, env, Rl, f⟩ := h
  refine ⟨S, env, Rl, (Fin.bind (V1 := Vx Z σ false) f).post fun v H1 q => ?_⟩
  obtain ⟨S1, env1, d1, e1, R1, hs1, v1, f1⟩ := q
  cases d1 with
  | lst xs =>
    have r := vx_false v1
    rw [rep_lst] at r
    obtain ⟨a, vs, rfl, e2, r2⟩ := r
    exact ⟨a, vs, rfl, SqL.of (R1.sub _ _ e2), Fin.ok (a := enumD 0 xs) f1 R1 (Sub.refl _) (walk_enum (SqL.of e2) r2)⟩
  | _ => exact f1.elim
theorem i_zip {a b : IE} {x y : Expr} {p pos tpos : Pos} {elts : List Expr} {kk : Nat} (cx : CxOk X Z.W xa E Γ k sc) (hg : glC sc "zip" = true) (hs : notStar x = true) (hs2 : notStar y = true) (ha : PE X x (semE xa E Z C false a)) (hb : PE X y (semE xa E Z C false b)) : PI X (.Tuple elts kk tpos) (.Call (.Name "zip" p) [x, y] [] pos) (semI xa E Z C (.zip a b)) := by
  have s2 := star1 (X := X) hs2
  have s1 : starEach [x, y] X.env = (false, eval x X.env) :: starEach [y] X.env := notStar_each (env := fun X => X.env) hs
  refine pi_weak (pi_zip (cx.glo _ hg) (cx.bl _ (by decide)) (pa_cons ha (pa_cons hb pa_nil s2) s1) s1 (star_plain [y] (by simp [hs2]))) fun σ H R h => ?_
  obtain ⟨S, env, Rl, f⟩ := h
  refine ⟨S, env, Rl, (Fin.bind (V1 := Vx Z σ false) f).post fun v H1 q => ?_⟩
  obtain ⟨S1, env1, d1, e1, R1, hs1, v1, f1⟩ := q
  refine ⟨S1, env1, R1, (Fin.bind (V1 := Vx Z σ false) f1).post fun w H2 q => ?_⟩
  obtain ⟨S2, env2, d2, e2, R2, hs2, v2, f2⟩ := q
  cases d1 with
  | lst xs =>
    cases d2 with
    | lst ys =>
      have r := (vx_false v1).mono hs2
      have r' := vx_false v2
      rw [rep_lst] at r r'
      obtain ⟨a, vs, rfl, e2, r2⟩ := r
      obtain ⟨b, ws, rfl, e3, r3⟩ := r'
      exact ⟨a, b, vs, ws, rfl, SqL.of (R2.sub _ _ e2), SqL.of (R2.sub _ _ e3), Fin.ok (a := zipD xs ys) f2 R2 (Sub.refl _) (walk_zip (SqL.of e2) r2 (SqL.of e3) r3)⟩
    | _ => exact f2.elim
  | _ => exact f2.elim

/-! ### comprehensions -/
theorem look_free {sc' : Scope} : ∀ {names : List (Str × NameKind)} {x : Str}, names.lookup x = some .free →
    (names.map fun (n, k) => if (k == NameKind.free && sc'.kind == .function && sc'.names.lookup n == some .cell) then (n, NameKind.cell) else (n, k)).lookup x = some .free ∨
    (names.map fun (n, k) => if (k == NameKind.free && sc'.kind == .function && sc'.names.lookup n == some .cell) then (n, NameKind.cell) else (n, k)).lookup x = some .cell
  | [], x, h => by simp at h
  | (n, k₀) :: r, x, h => by
    have ih := @look_free sc' r x
    show List.lookup x ((if (k₀ == NameKind.free && sc'.kind == .function && sc'.names.lookup n == some .cell) = true then (n, NameKind.cell) else (n, k₀)) :: (r.map _)) = some .free ∨ List.lookup x ((if (k₀ == NameKind.free && sc'.kind == .function && sc'.names.lookup n == some .cell) = true then (n, NameKind.cell) else (n, k₀)) :: (r.map _)) = some .cell
    cases hx : x == n with
    | true =>
      simp only [List.lookup_cons, hx] at h
      cases h
      split
      · exact .inr (by simp only [List.lookup_cons, hx])
      · exact .inl (by simp only [List.lookup_cons, hx])
    | false =>
      simp only [List.lookup_cons, hx] at h
      split
      · simp only [List.lookup_cons, hx]; exact ih h
      · simp only [List.lookup_cons, hx]; exact ih h
theorem CxOk.blk (cx : CxOk X Z.W xa E Γ k sc) {scope : Scope} (s : Shared) (H : Hp) (A : Addr) (cl : List (Str × Addr)) (fp : List Addr) : CxOk (X.blk s H scope (compEnvC scope cl A X.env) fp) Z.W xa (fun _ _ _ _ => False) Γ k scope := by
  have hsc : (X.blk s H scope (compEnvC scope cl A X.env) fp).env.scope = relS scope X.env.scope := rfl
  have keep : ∀ {x : Str} {k : NameKind}, k ≠ .free → scope.names.lookup x = some k → (relS scope X.env.scope).names.lookup x = some k := fun {x k} hk h => lookup_relS_keep hk h
  refine ⟨cx.N, cx.nd, cx.calm, fun x h => ?_, fun x h => ?_, fun x h => ?_, fun x h => ?_, cx.K, cx.fns, cx.pl, cx.plc, cx.room, takes0, cx.xc, cx.xo, cx.xs, cx.xk, cx.xb, cx.bl, cx.ci, cx.cs, cx.gd⟩
  · unfold visC at h
    unfold Vis
    rw [hsc]
    cases e : scope.names.lookup x with
    | none => rw [e] at h; cases h
    | some kk =>
      cases kk with
      | «local» => exact .inl (keep (by decide) e)
      | cell => exact .inr (.inl (keep (by decide) e))
      | free => rcases look_free (sc' := X.env.scope) e with q | q; exact .inr (.inr q); exact .inr (.inl q)
      | globalExplicit => rw [e] at h; cases h
      | globalImplicit => rw [e] at h; cases h
  · unfold locC at h
    unfold L2.Loc
    rw [hsc]
    cases e : scope.names.lookup x with
    | none => rw [e] at h; cases h
    | some kk =>
      cases kk with
      | «local» => exact ⟨.inl (keep (by decide) e), .inr (keep (by decide) e)⟩
      | cell => exact ⟨.inr (keep (by decide) e), .inl (by show (scope.names.lookup x == some .cell) = true; rw [e]; rfl)⟩
      | free => rw [e] at h; cases h
      | globalExplicit => rw [e] at h; cases h
      | globalImplicit => rw [e] at h; cases h
  · unfold cfC at h
    rw [hsc]
    cases e : scope.names.lookup x with
    | none => rw [e] at h; cases h
    | some kk =>
      cases kk with
      | «local» => rw [e] at h; cases h
      | cell => exact .inl (keep (by decide) e)
      | free => rcases look_free (sc' := X.env.scope) e with q | q; exact .inr q; exact .inl q
      | globalExplicit => rw [e] at h; cases h
      | globalImplicit => rw [e] at h; cases h
  · unfold glC at h
    show (relS scope X.env.scope).names.lookup x = some .globalImplicit
    cases e : scope.names.lookup x with
    | none => rw [e] at h; cases h
    | some kk =>
      cases kk with
      | globalImplicit => exact keep (by decide) e
      | _ => rw [e] at h; cases h
theorem blk_ok (cx : CxOk X Z.W xa E Γ k sc) {scope : Scope} {own : List (Str × Nat)} (h : blkC Γ.N sc scope own = true) : BlkOk X.N X.env.scope scope own := by
  have b := blkOk_by h
  refine ⟨b.kind, b.uniq, fun p hp => by rw [cx.N]; exact b.ix p hp, fun y hy e => ?_, fun y hy e => by rw [cx.N]; exact b.own y hy e⟩
  refine cx.cf y.1 ?_
  unfold cfC
  rcases b.free y hy e with q | q <;> rw [q]
theorem c_none : PTs X [] (semC xa E Z C .none) := by
  refine ⟨fun pins s σ H Q I h => pts_nil.run pins s σ H Q I ?_⟩
  obtain ⟨S, env, R, f⟩ := h
  exact Fin.ok (a := true) f R (Sub.refl S) rfl
theorem c_some {e : IE} {x : Expr} (h : PT X x (semT xa E Z C e)) : PTs X [x] (semC xa E Z C (.some e)) := pts_one h
/-- sems with any base -/
def anyE (W : Wd) (own : List Nat) (xa : Nat → Addr) (C : CT) (e : IE) : TE := fun σ H Q => ∃ Z' : Stt, Z'.W = W ∧ Z'.own = own ∧ semE xa (fun _ _ _ _ => False) Z' C false e σ H Q
def anyC (W : Wd) (own : List Nat) (xa : Nat → Addr) (C : CT) (c : IO) : TT := fun σ H Q => ∃ Z' : Stt, Z'.W = W ∧ Z'.own = own ∧ semC xa (fun _ _ _ _ => False) Z' C c σ H Q
theorem e_lc {vs : List Nat} {t : IT} {it : II} {c : IO} {e : IE} {tg iter elt : Expr} {ifs : List Expr} {scope : Scope} {pos : Pos} {own : List (Str × Nat)} (cx : CxOk X Z.W xa E Γ k sc) (hv : ∀ v ∈ vs, v ∉ Z.own) (hb : blkC Γ.N sc scope own = true) (ho : own.map (·.2) = vs) (hset : notSet iter = true) (hts : ∀ i ∈ t.slots, i ∈ vs) (ht : itC Γ scope t tg = true)
    (hi : PI X tg iter (semI xa E Z C it))
    (hc : ∀ (s : Shared) (H : Hp) (A : Addr) (cl : List (Str × Addr)) (fp : List Addr) (Z' : Stt), Z'.W = Z.W → Z'.own = Z.own → PTs (X.blk s H scope (compEnvC scope cl A X.env) fp) ifs (semC xa (fun _ _ _ _ => False) Z' C c))
    (he : ∀ (s : Shared) (H : Hp) (A : Addr) (cl : List (Str × Addr)) (fp : List Addr) (Z' : Stt), Z'.W = Z.W → Z'.own = Z.own → PE (X.blk s H scope (compEnvC scope cl A X.env) fp) elt (semE xa (fun _ _ _ _ => False) Z' C false e)) {fr : Bool} :
    ∀ {σ : L2.St} {H : Hp} {Q : VK}, semE xa E Z C fr (.lc vs t it c e) σ H Q → tLc (semI xa E Z C it) (gIT X.K t) (anyC Z.W Z.own xa C c) (anyE Z.W Z.own xa C e) vs σ H Q := by
  have key : ∀ {σ : L2.St} {H : Hp} {Q : VK}, semE xa E Z C true (.lc vs t it c e) σ H Q → tLc (semI xa E Z C it) (gIT X.K t) (anyC Z.W Z.own xa C c) (anyE Z.W Z.own xa C e) vs σ H Q := by
    intro σ H Q h
    obtain ⟨S, env, R, f⟩ := h
    refine ⟨S, env, R, (Fin.bind f).post fun J H1 q => ?_⟩
    obtain ⟨S1, env1, ds, e1, R1, hs1, wk, f1⟩ := q
    have wk : Walk Z.W S1 J ds := wk
    intro D hD
    cases hl : lcD t vs (evc C c) (ev C e) ds 0 env1 with
    | exc j d => rw [hl] at f1; exact f1.elim
    | bad => rw [hl] at f1; exact f1.elim
    | ok r env2 =>
      rw [hl] at f1
      simp only at f1
      -- the state between two turns
      let Mid : Nat → Hp → Prop := fun i H => i ≤ ds.length ∧ ∃ (S : Hp) (env' : Env) (done : List VI.D) (vd : List V) (rest : List VI.D), Sub S1 S ∧ Rel Z (wipe σ vs) S H (wipeE env' vs) ∧ H D = some (.lst vd) ∧ S D = none ∧ Reps Z.W S done vd ∧ Z.H0 D = none ∧
        (∀ j, j ∈ Z.own → getE (wipeE env' vs) j ≠ none → (wipe σ vs)[j]? ≠ some (some (.ref D))) ∧ vd.length ≤ sizeLine ∧ lcD t vs (evc C c) (ev C e) (ds.drop i) done.length env' = .ok rest env2 ∧ done ++ rest = r
      refine ⟨fun i m H => m = ds.length - i ∧ Mid i H, ⟨ds.length, by simp, Nat.zero_le _, S1, env1, [], [], r, Sub.refl _, (R1.new hD (by show 0 ≤ sizeLine; decide)).wiped hv, upd_same, R1.sub.none hD, reps_nil.mpr rfl, R1.h0 hD, fun j hj hq => ?_, by show 0 ≤ sizeLine; decide, by rw [List.drop_zero]; exact hl, rfl⟩, ?_⟩
      · have h1 : j ∉ vs := fun z => hv j z hj
        rw [getE_wipe, if_neg h1] at hq
        rw [wipe_out h1]
        exact R1.apart hD j hj hq
      rintro i m H2 ⟨rfl, hle, S2, env', done, vd, rest, hsub, R2, hD2, hS2, rd, h0, hap, hsz, hrec, hdone⟩
      by_cases hlt : i < ds.length
      · right
        refine ⟨wk.go i H2 (hsub.trans R2.sub) hlt, Mid (i + 1), fun H' hm => ⟨ds.length - (i + 1), by omega, rfl, hm⟩, fun x H' y => ?_⟩
        have hx : ds[i]? = some ds[i] := List.getElem?_eq_getElem hlt
        have hdrop : ds.drop i = ds[i] :: ds.drop (i + 1) := List.drop_eq_getElem_cons hlt
        rw [hdrop] at hrec
        unfold lcD at hrec
        -- the item
        have hitem : ∃ S3, Sub S2 S3 ∧ Rel Z (wipe σ vs) S3 H' (wipeE env' vs) ∧ Rep Z.W S3 ds[i] x ∧ H' D = some (.lst vd) ∧ S3 D = none := by
          rcases wk.yld i H2 x H' ds[i] (hsub.trans R2.sub) y hx with ⟨rfl, rx⟩ | ⟨p, es, ws, hp, rfl, rfl, e2, rs, hlen⟩
          · exact ⟨S2, Sub.refl _, R2, rx.mono hsub, hD2, hS2⟩
          · have hne : D ≠ p := ne_of_none hD2 hp
            have hs := Sub.upd (o := .tup ws) (R2.sub.none hp)
            refine ⟨_, hs, R2.both hp (Nat.le_trans hlen (by decide)), ?_, by rw [upd_ne hne]; exact hD2, by rw [upd_ne hne]; exact hS2⟩
            rw [e2]
            exact rep_tup.mpr ⟨p, ws, rfl, upd_same, (rs.mono hsub).mono hs⟩
        obtain ⟨S3, hs3, R3, rx, hD3, hS3⟩ := hitem
        cases hbind : bindT t ds[i] (wipeE env' vs) with
        | none => rw [hbind] at hrec; cases hrec
        | some env3 =>
          rw [hbind] at hrec
          simp only at hrec
          have Rin := R3.enter
          obtain ⟨P, hP⟩ : ∃ P, P = ownP Z.own (wipe σ vs) (wipeE env' vs) := ⟨_, rfl⟩
          rw [← hP] at Rin
          have hPs : ∀ p ∈ P, p.1 ∉ t.slots := fun p hp z => by
            rw [hP] at hp
            exact hv _ (hts _ z) (mem_ownP.mp hp).1
          rw [← cx.K]
          refine target_rel (Z := ⟨Z.W, Z.own, S3, H', P⟩) Rin hbind hPs rx fun σ2 own' hown R4 hσ => ?_
          have R4 : Rel ⟨Z.W, Z.own, S3, H', P⟩ σ2 S3 H' env3 := R4.marks (own' := Z.own) fun j => by
            rw [hown]
            exact ⟨fun z => ⟨z, fun w => hv _ (hts _ w) z⟩, fun z => z.1⟩
          have hw : wipe σ2 vs = wipe σ vs := by
            refine List.ext_getElem? fun j => ?_
            by_cases hj : j ∈ vs
            · have wn : ∀ (τ : L2.St), τ.length = σ.length → (wipe τ vs)[j]? = if j < σ.length then some none else none := by
                have : ∀ (ws : List Nat) (τ : L2.St), j ∈ ws → (wipe τ ws)[j]? = if j < τ.length then some none else none := by
                  intro ws
                  induction ws with
                  | nil => intro τ h; simp at h
                  | cons w ws ih =>
                    intro τ h
                    unfold wipe
                    by_cases hwj : w = j
                    · subst hwj
                      by_cases hlt : w < τ.length
                      · rw [List.getElem?_set_self (by rw [wipe_length]; exact hlt), if_pos hlt]
                      · rw [if_neg hlt, List.getElem?_eq_none (by rw [List.length_set, wipe_length]; omega)]
                    · rw [List.getElem?_set_ne hwj]
                      exact ih τ (by rcases List.mem_cons.mp h with z | z; exact absurd z.symm hwj; exact z)
                intro τ hτ
                rw [this vs τ hj, hτ]
              have l1 : σ2.length = σ.length := by
                have a := R4.ln
                have b := R3.ln
                have c' : env3.length = (wipeE env' vs).length := by
                  cases t with
                  | nm i =>
                    unfold bindT at hbind
                    simp only at hbind
                    split at hbind
                    · cases hbind; rw [List.length_set]
                    · cases hbind
                  | tp is =>
                    unfold bindT at hbind
                    simp only at hbind
                    split at hbind
                    · split at hbind
                      · cases hbind
                        have : ∀ (l : List (Nat × VI.D)) (e : Env), (l.foldl (fun e p => e.set p.1 (some p.2)) e).length = e.length := by
                          intro l
                          induction l with
                          | nil => intro e; rfl
                          | cons p l ih => intro e; rw [List.foldl_cons, ih, List.length_set]
                        rw [this]
                      · cases hbind
                    · cases hbind
                rw [wipe_length] at b
                rw [a, c', ← b]
              rw [wn σ2 l1, wn σ rfl]
            · rw [wipe_out hj, hσ j (fun z => hj (hts _ z)), wipe_out hj]
          refine ⟨hw, ⟨Z.W, Z.own, S3, H', P⟩, rfl, rfl, S3, env3, R4, ?_⟩
          -- behind the element: one more item, or none
          have hnotP : ∀ p ∈ P, p.2 ≠ D := fun p hp z => by
            rw [hP] at hp
            obtain ⟨q1, q2, q3⟩ := mem_ownP.mp hp
            exact hap p.1 q1 q2 (by rw [← z]; exact q3)
          have out : ∀ {S4 H4 : Hp} {env4 : Env}, Rel ⟨Z.W, Z.own, S3, H', P⟩ σ2 S4 H4 env4 → Sub S3 S4 ∧ Rel Z (wipe σ vs) S4 H4 (wipeE env4 vs) ∧ H4 D = some (.lst vd) ∧ S4 D = none ∧ ∀ j, j ∈ Z.own → getE (wipeE env4 vs) j ≠ none → (wipe σ vs)[j]? ≠ some (some (.ref D)) := fun {S4 H4 env4} R5 => by
            have R6 : Rel Z σ2 S4 H4 env4 := R3.leave hP R5 fun j hj => by
              have h1 : j ∉ vs := fun z => hv j z hj
              rw [hσ j fun z => h1 (hts _ z)]
            have R7 := R6.wiped hv
            rw [hw] at R7
            have d4 : H4 D = some (.lst vd) := R5.fr D _ hD3 hnotP
            have s4 : S4 D = none := by
              have := R5.gr D _ hD3
              rw [this]; exact hS3
            refine ⟨R5.s0, R7, d4, s4, fun j hj hq z => ?_⟩
            obtain ⟨_, _, q3⟩ := R7.ownSome hj hq z
            rcases q3 with q3 | ⟨p, hp, q3⟩
            · -- an owned slot's list is no new one
              have h1 : j ∉ vs := fun w => hv j w hj
              obtain ⟨x1, x2, x3⟩ : j ∈ Z.own ∧ True ∧ True := ⟨hj, trivial, trivial⟩
              rw [getE_wipe, if_neg h1] at hq
              have hz2 : σ2[j]? = some (some (.ref D)) := by
                rw [wipe_out h1] at z
                rw [hσ j fun w => h1 (hts _ w), wipe_out h1]
                exact z
              obtain ⟨_, _, q5⟩ := R5.ownSome hj hq hz2
              rcases q5 with q5 | ⟨p, hp, q5⟩
              · have q5 : H' D = none := q5
                rw [hD3] at q5; cases q5
              · exact hnotP p hp q5
            · obtain ⟨a1, a2, a3⟩ := R2.pa p hp
              rw [q3] at a2
              exact hap p.1 a1 a3 a2
          cases hcc : evc C c env3 with
          | exc j d => rw [hcc] at hrec; cases hrec
          | bad => rw [hcc] at hrec; cases hrec
          | ok b env4 =>
            rw [hcc] at hrec
            simp only [Res.bind_ok] at hrec
            intro b' H4 S4 R5 hs4 hbb
            have hbb : b = b' := hbb
            subst hbb
            cases b with
            | false =>
              rw [if_neg Bool.false_ne_true]
              obtain ⟨o1, o2, o3, o4, o5⟩ := out R5
              exact ⟨hlt, S4, env4, done, vd, rest, hsub.trans (hs3.trans o1), o2, o3, o4, (rd.mono hs3).mono o1, h0, o5, hsz, hrec, hdone⟩
            | true =>
              rw [if_pos rfl]
              simp only at hrec
              refine ⟨⟨Z.W, Z.own, S3, H', P⟩, rfl, rfl, S4, env4, R5, ?_⟩
              cases hee : ev C e env4 with
              | exc j d => rw [hee] at hrec; cases hrec
              | bad => rw [hee] at hrec; cases hrec
              | ok d5 env5 =>
                rw [hee] at hrec
                simp only [Res.bind_ok] at hrec
                split at hrec
                · rename_i hdl
                  intro y5 H5 S5 R6 hs5 v5
                  have r5 : Rep Z.W S5 d5 y5 := v5.2 fun q => (by cases q)
                  obtain ⟨o1, o2, o3, o4, o5⟩ := out R6
                  have hvl : vd.length < sizeLine := by rw [← rd.length]; exact hdl
                  refine ⟨vd, o3, hvl, hlt, ?_⟩
                  cases hrr : lcD t vs (evc C c) (ev C e) (ds.drop (i + 1)) (done.length + 1) env5 with
                  | exc j d => rw [hrr] at hrec; cases hrec
                  | bad => rw [hrr] at hrec; cases hrec
                  | ok rest' env6 =>
                    rw [hrr] at hrec
                    simp only [Res.bind_ok] at hrec
                    cases hrec
                    refine ⟨S5, env5, done ++ [d5], vd ++ [y5], rest', hsub.trans (hs3.trans o1), o2.poke h0 o4 o5 (by show (vd ++ [y5]).length ≤ sizeLine; rw [List.length_append]; exact hvl), upd_same, o4, ((rd.mono hs3).mono o1).append (reps_cons.mpr ⟨y5, [], rfl, r5, reps_nil.mpr rfl⟩), h0, o5, by rw [List.length_append]; exact hvl, by rw [List.length_append]; exact hrr, by rw [← hdone, List.append_assoc]; rfl⟩
                · cases hrec
      · left
        have hi' : ds.length ≤ i := by omega
        refine ⟨wk.stop i H2 (hsub.trans R2.sub) hi', ?_⟩
        have hnil : ds.drop i = [] := List.drop_eq_nil_of_le hi'
        rw [hnil] at hrec
        unfold lcD at hrec
        cases hrec
        rw [List.append_nil] at hdone
        subst hdone
        have Rb : Rel Z σ S2 H2 (backE env1 env2 vs) := R1.back hsub R2 hv
        refine f1.ok Rb hsub ⟨fun _ _ => ⟨D, done, vd, rfl, rfl, hD2, hS2, rd, h0, fun j hj hq => ?_⟩, fun z => by have z := z rfl; unfold isL at z; cases z⟩
        have h1 : j ∉ vs := fun z => hv j z hj
        have he12 : env2.length = env1.length := by
          have a := R2.ln
          rw [wipe_length, wipeE_length] at a
          rw [← a, R1.ln]
        rw [getE_back he12, if_neg h1] at hq
        have := hap j hj (by rw [getE_wipe, if_neg h1]; exact hq)
        rw [wipe_out h1] at this
        exact this
  intro σ H Q h
  cases fr with
  | true => exact key h
  | false =>
    obtain ⟨S, env, R, f⟩ := h
    exact key ⟨S, env, R, fin_give f⟩
end
end VI
/-! VIh: expressions of the text that match. -/
namespace VI
open PySem PySem.Spec PyProof.Rows L2

theorem ba {a b : Bool} (h : (a && b) = true) : a = true ∧ b = true := Bool.and_eq_true_iff.mp h
theorem nf {b : Bool} (h : (!b) = true) : b = false := by cases b <;> first | rfl | cases h
theorem owns_cons {e : IE} {es : IEs} (h : ∀ i, e ≠ .own i) : (IEs.cons e es).owns = none :: es.owns := by
  cases e <;> first | rfl | exact absurd rfl (h _)
theorem boot_ty {x : Str} {n : String} (h : (x, n) ∈ tyNames) : bootBuiltins x = some (.type n) ∧ x ∈ blNames ∧ x ≠ ("__name__" : Str) ∧ (x == ("__debug__" : Str)) = false := by
  unfold tyNames at h
  simp only [List.mem_cons, List.not_mem_nil, or_false, Prod.mk.injEq] at h
  rcases h with ⟨rfl, rfl⟩ | ⟨rfl, rfl⟩ | ⟨rfl, rfl⟩ | ⟨rfl, rfl⟩ | ⟨rfl, rfl⟩ <;> exact ⟨by decide +kernel, by decide, by decide, by decide⟩
section
variable {X : Cx} {xa : Nat → Addr} {E : L2.St → XK} {Γ : Cfg} {k : Nat} {sc : Scope} {Z : Stt} {C : CT}
theorem a_nil : PA X [] (semA xa E Z C .nil) := by
  refine ⟨fun pos pins s σ H Q I h => pa_nil.run pos pins s σ H Q I ?_⟩
  obtain ⟨S, env, R, f⟩ := h
  exact Fin.ok (a := ([] : List D)) f R (Sub.refl S) ⟨rfl, rfl⟩
theorem PA.weak {es : List Expr} {t t' : TA} (h : PA X es t) (hq : ∀ σ H Q, t' σ H Q → t σ H Q) : PA X es t' := ⟨fun pos pins s σ H Q I q => h.run pos pins s σ H Q I (hq σ H Q q)⟩
theorem PK.weak {es : List Keyword} {t t' : TA} (h : PK X es t) (hq : ∀ σ H Q, t' σ H Q → t σ H Q) : PK X es t' := ⟨fun pos pins s σ H Q I q => h.run pos pins s σ H Q I (hq σ H Q q)⟩
theorem cons_step {e : IE} {es : IEs} (he : ∀ i, e ≠ .own i) {σ : L2.St} {H : Hp} {Q : List V → Hp → Prop} (h : semA xa E Z C (.cons e es) σ H Q) : tCons (semE xa E Z C false e) (semA xa E Z C es) σ H Q := by
  obtain ⟨S, env, R, f⟩ := h
  refine ⟨S, env, R, (Fin.bind f).post fun v H1 q => ?_⟩
  obtain ⟨S1, env1, d, _, R1, hs1, v1, f1⟩ := q
  refine ⟨S1, env1, R1, (Fin.bind f1).post fun vs H2 q => ?_⟩
  obtain ⟨S2, env2, ds, _, R2, hs2, v2, f2⟩ := q
  refine Fin.ok (a := d :: ds) f2 R2 (Sub.refl _) ?_
  show ARs Z.W σ S2 (IEs.cons e es).owns (d :: ds) (v :: vs)
  rw [owns_cons he]
  exact ⟨(vx_false v1).mono hs2, v2⟩
theorem a_cons {e : IE} {es : IEs} {x : Expr} {xs : List Expr} (hn : notStar x = true) (hx : PE X x (semE xa E Z C false e)) (hxs : PA X xs (semA xa E Z C es)) (he : ∀ i, e ≠ .own i) : PA X (x :: xs) (semA xa E Z C (.cons e es)) :=
  PA.weak (pa_cons hx hxs (notStar_each (env := fun X => X.env) hn)) fun σ H Q h => cons_step he h
theorem a_own {i : Nat} {es : IEs} {n : Str} {p : Pos} {xs : List Expr} (cx : CxOk X Z.W xa E Γ k sc) (hs : slotC Γ sc i n = true) (hxs : PA X xs (semA xa E Z C es)) : PA X (.Name n p :: xs) (semA xa E Z C (.cons (.own i) es)) := by
  unfold slotC at hs
  obtain ⟨hs, h3⟩ := ba hs
  obtain ⟨h1, h2⟩ := ba hs
  unfold okName at h3
  obtain ⟨h3, _⟩ := ba h3
  obtain ⟨h3, h4⟩ := ba h3
  refine PA.weak (pa_cons (pe_var (i := i) (by rw [cx.N]; exact of_decide_eq_true h1) (cx.vis n h2) (by simpa using h3) (by simpa using h4)) hxs rfl) fun σ H Q h => ?_
  obtain ⟨S, env, R, f⟩ := h
  have f : Fin (Exs Z.W xa (E σ) Z) Z σ S (Va Z σ (some i :: es.owns)) ((lift (getE env i) env).bind fun x env1 => (evs C es env1).bind fun xs env2 => .ok (x :: xs) env2) Q := f
  cases e : getE env i with
  | none => rw [e] at f; exact f.elim
  | some d =>
    rw [e] at f
    simp only [lift_some, Res.bind_ok] at f
    obtain ⟨v, h5, _⟩ := R.sl i d e
    refine ⟨v, h5, S, env, R, (Fin.bind f).post fun vs H2 q => ?_⟩
    obtain ⟨S2, env2, ds, _, R2, hs2, v2, f2⟩ := q
    exact Fin.ok (a := d :: ds) f2 R2 (Sub.refl _) ⟨h5, v2⟩
theorem k_nil : PK X [] (semA xa E Z C .nil) := by
  refine ⟨fun pos pins s σ H Q I h => pk_nil.run pos pins s σ H Q I ?_⟩
  obtain ⟨S, env, R, f⟩ := h
  exact Fin.ok (a := ([] : List D)) f R (Sub.refl S) ⟨rfl, rfl⟩
theorem k_cons {e : IE} {es : IEs} {nm : Option Str} {x : Expr} {p : Pos} {xs : List Keyword} (hx : PE X x (semE xa E Z C false e)) (hxs : PK X xs (semA xa E Z C es)) (he : ∀ i, e ≠ .own i) : PK X (⟨nm, x, p⟩ :: xs) (semA xa E Z C (.cons e es)) :=
  PK.weak (pk_cons hx hxs) fun σ H Q h => cons_step he h
theorem e_one {e : IE} {op : BoolOp} {x : Expr} {p : Pos} (h : PE X x (semE xa E Z C false e)) : PE X (.BoolOp op [x] p) (semE xa E Z C false e) := pe_one h
end

mutual
theorem sE (xa : Nat → Addr) (Γ : Cfg) (k : Nat) : (e : IE) → ∀ {X : Cx} {E : L2.St → XK} {sc : Scope} {Z : Stt} {fr : Bool} {pe : Expr}, CxOk X Z.W xa E Γ k sc → corr Γ Z.own sc fr e pe = true →
    PE X pe (semE xa E Z (CF Γ.T k) fr e) ∧ (fr = false → PT X pe (semT xa E Z (CF Γ.T k) e))
  | .var i, X, E, sc, Z, fr, pe, cx, h => by
    cases pe with
    | Name x p =>
      unfold corr at h
      obtain ⟨h, h3⟩ := ba h
      obtain ⟨h1, h2⟩ := ba h
      have hfr := nf h1
      subst hfr
      have q := e_var (C := CF Γ.T k) (p := p) cx h3 (of_decide_eq_false (nf h2))
      exact ⟨q, fun _ => t_val q rfl⟩
    | _ => (have h : false = true := h; cases h)
  | .own i, X, E, sc, Z, fr, pe, cx, h => by cases pe <;> (have h : false = true := h; cases h)
  | .int z, X, E, sc, Z, fr, pe, cx, h => by
    cases pe with
    | Constant c kk p =>
      cases c with
      | int z' =>
        unfold corr at h
        obtain ⟨h1, h2⟩ := ba h
        have hfr := nf h1
        subst hfr
        have e := of_decide_eq_true h2
        subst e
        have q : PE X (.Constant (.int z) kk p) (semE xa E Z (CF Γ.T k) false (.int z)) := e_const pe_int (fun _ => rfl) fun S => rep_int.mpr rfl
        exact ⟨q, fun _ => t_val q rfl⟩
      | _ => (have h : false = true := h; cases h)
    | Name x p =>
      unfold corr at h
      obtain ⟨h, h4⟩ := ba h
      obtain ⟨h, h3⟩ := ba h
      obtain ⟨h1, h2⟩ := ba h
      have hfr := nf h1
      subst hfr
      have q := e_ci (C := CF Γ.T k) (p := p) cx h2 h3 (of_decide_eq_true h4)
      exact ⟨q, fun _ => t_val q rfl⟩
    | _ => (have h : false = true := h; cases h)
  | .bl z, X, E, sc, Z, fr, pe, cx, h => by
    cases pe with
    | Constant c kk p =>
      cases c with
      | bool z' =>
        unfold corr at h
        obtain ⟨h1, h2⟩ := ba h
        have hfr := nf h1
        subst hfr
        have e := of_decide_eq_true h2
        subst e
        have q : PE X (.Constant (.bool z) kk p) (semE xa E Z (CF Γ.T k) false (.bl z)) := e_const pe_bl (fun _ => rfl) fun S => rep_bl.mpr rfl
        exact ⟨q, fun _ => t_val q rfl⟩
      | _ => (have h : false = true := h; cases h)
    | _ => (have h : false = true := h; cases h)
  | .non, X, E, sc, Z, fr, pe, cx, h => by
    cases pe with
    | Constant c kk p =>
      cases c with
      | none =>
        unfold corr at h
        have hfr := nf h
        subst hfr
        have q : PE X (.Constant .none kk p) (semE xa E Z (CF Γ.T k) false .non) := e_const pe_non (fun _ => rfl) fun S => rep_non.mpr rfl
        exact ⟨q, fun _ => t_val q rfl⟩
      | _ => (have h : false = true := h; cases h)
    | _ => (have h : false = true := h; cases h)
  | .str z, X, E, sc, Z, fr, pe, cx, h => by
    cases pe with
    | Constant c kk p =>
      cases c with
      | str z' =>
        unfold corr at h
        obtain ⟨h1, h2⟩ := ba h
        have hfr := nf h1
        subst hfr
        have e := of_decide_eq_true h2
        subst e
        have q : PE X (.Constant (.str z) kk p) (semE xa E Z (CF Γ.T k) false (.str z)) := e_const pe_str (fun _ => rfl) fun S => rep_str.mpr rfl
        exact ⟨q, fun _ => t_val q rfl⟩
      | _ => (have h : false = true := h; cases h)
    | Name x p =>
      unfold corr at h
      obtain ⟨h, h4⟩ := ba h
      obtain ⟨h, h3⟩ := ba h
      obtain ⟨h1, h2⟩ := ba h
      have hfr := nf h1
      subst hfr
      have q := e_cs (C := CF Γ.T k) (p := p) cx h2 h3 (of_decide_eq_true h4)
      exact ⟨q, fun _ => t_val q rfl⟩
    | _ => (have h : false = true := h; cases h)
  | .ty n, X, E, sc, Z, fr, pe, cx, h => by
    cases pe with
    | Name x p =>
      unfold corr at h
      obtain ⟨h, h3⟩ := ba h
      obtain ⟨h1, h2⟩ := ba h
      have hfr := nf h1
      subst hfr
      obtain ⟨b1, b2, b3, b4⟩ := boot_ty (of_decide_eq_true h3)
      have q : PE X (.Name x p) (semE xa E Z (CF Γ.T k) false (.ty n)) := e_const (pe_bltn (v := .ty n) (cx.glo x h2) (cx.bl x b2) b1 rfl b3 b4) (fun _ => rfl) fun S => rep_ty.mpr rfl
      exact ⟨q, fun _ => t_val q rfl⟩
    | _ => (have h : false = true := h; cases h)
  | .fn g, X, E, sc, Z, fr, pe, cx, h => by
    cases pe with
    | Name x p =>
      unfold corr at h
      obtain ⟨h, h4⟩ := ba h
      obtain ⟨h, h3⟩ := ba h
      obtain ⟨h1, h2⟩ := ba h
      have hfr := nf h1
      subst hfr
      split at h4
      · rename_i f hf
        obtain ⟨h4, h5⟩ := ba h4
        have q := e_fn (C := CF Γ.T k) (p := p) cx h2 h3 hf (of_decide_eq_true h4) (List.isEmpty_iff.mp h5)
        exact ⟨q, fun _ => t_val q rfl⟩
      · cases h4
    | _ => (have h : false = true := h; cases h)
  | .scal e, X, E, sc, Z, fr, pe, cx, h => by
    have h : (!fr && corr Γ [] sc false e pe) = true := by unfold corr at h; exact h
    obtain ⟨h1, h2⟩ := ba h
    have hfr := nf h1
    subst hfr
    exact ⟨e_scal fun Z' hW ho => (sE xa Γ k e (Z := Z') (by rw [hW]; exact cx) (by rw [ho]; exact h2)).1, fun _ => t_scal fun Z' hW ho => (sE xa Γ k e (Z := Z') (by rw [hW]; exact cx) (by rw [ho]; exact h2)).2 rfl⟩
  | .bin op a b, X, E, sc, Z, fr, pe, cx, h => by
    cases pe with
    | BinOp l o r p =>
      unfold corr at h
      obtain ⟨h, h3⟩ := ba h
      obtain ⟨h1, h2⟩ := ba h
      have e := of_decide_eq_true h1
      subst e
      have q := fun fr => e_bin (op := op) (p := p) (fr := fr) (sE xa Γ k a cx h2).1 (sE xa Γ k b cx h3).1
      exact ⟨q fr, fun _ => t_val (q false) rfl⟩
    | _ => (have h : false = true := h; cases h)
  | .neg a, X, E, sc, Z, fr, pe, cx, h => by
    cases pe with
    | UnaryOp o l p =>
      cases o with
      | USub =>
        unfold corr at h
        obtain ⟨h1, h2⟩ := ba h
        have hfr := nf h1
        subst hfr
        have q := e_neg (p := p) (sE xa Γ k a cx h2).1
        exact ⟨q, fun _ => t_val q rfl⟩
      | _ => (have h : false = true := h; cases h)
    | _ => (have h : false = true := h; cases h)
  | .not a, X, E, sc, Z, fr, pe, cx, h => by
    cases pe with
    | UnaryOp o l p =>
      cases o with
      | Not =>
        unfold corr at h
        obtain ⟨h1, h2⟩ := ba h
        have hfr := nf h1
        subst hfr
        have q := sE xa Γ k a cx h2
        exact ⟨e_not q.1, fun _ => t_not (q.2 rfl)⟩
      | _ => (have h : false = true := h; cases h)
    | _ => (have h : false = true := h; cases h)
  | .and a b, X, E, sc, Z, fr, pe, cx, h => by
    cases pe with
    | BoolOp o l p =>
      cases o with
      | And =>
        cases l with
        | nil => (have h : false = true := h; cases h)
        | cons x l =>
          cases l with
          | nil => (have h : false = true := h; cases h)
          | cons y r =>
            unfold corr at h
            obtain ⟨h, h3⟩ := ba h
            obtain ⟨h1, h2⟩ := ba h
            have hfr := nf h1
            subst hfr
            have qa := sE xa Γ k a cx h2
            cases r with
            | nil =>
              have qb := sE xa Γ k b cx h3
              exact ⟨e_and qa.1 (e_one qb.1), fun _ => t_and (qa.2 rfl) (pw_and1 (qb.2 rfl))⟩
            | cons z r =>
              have qb := sE xa Γ k b cx h3
              exact ⟨e_and qa.1 qb.1, fun _ => t_and (qa.2 rfl) (pt_bool (qb.2 rfl))⟩
      | Or => (have h : false = true := h; cases h)
    | _ => (have h : false = true := h; cases h)
  | .or a b, X, E, sc, Z, fr, pe, cx, h => by
    cases pe with
    | BoolOp o l p =>
      cases o with
      | Or =>
        cases l with
        | nil => (have h : false = true := h; cases h)
        | cons x l =>
          cases l with
          | nil => (have h : false = true := h; cases h)
          | cons y r =>
            unfold corr at h
            obtain ⟨h, h3⟩ := ba h
            obtain ⟨h1, h2⟩ := ba h
            have hfr := nf h1
            subst hfr
            have qa := sE xa Γ k a cx h2
            cases r with
            | nil =>
              have qb := sE xa Γ k b cx h3
              exact ⟨e_or qa.1 (e_one qb.1), fun _ => t_or (qa.2 rfl) (pw_or1 (qb.2 rfl))⟩
            | cons z r =>
              have qb := sE xa Γ k b cx h3
              exact ⟨e_or qa.1 qb.1, fun _ => t_or (qa.2 rfl) (pt_bool (qb.2 rfl))⟩
      | And => (have h : false = true := h; cases h)
    | _ => (have h : false = true := h; cases h)
  | .ife c a b, X, E, sc, Z, fr, pe, cx, h => by
    cases pe with
    | IfExp t x y p =>
      unfold corr at h
      obtain ⟨h, h3⟩ := ba h
      obtain ⟨h1, h2⟩ := ba h
      have qc := sE xa Γ k c cx h1
      have qa := sE xa Γ k a cx h2
      have qb := sE xa Γ k b cx h3
      exact ⟨e_ife (qc.2 rfl) qa.1 qb.1, fun e => t_ife (qc.2 rfl) (qa.2 e) (qb.2 e)⟩
    | _ => (have h : false = true := h; cases h)
  | .cmp op a b, X, E, sc, Z, fr, pe, cx, h => by
    cases pe with
    | Compare l os rs p =>
      cases os with
      | nil => (have h : false = true := h; cases h)
      | cons o os =>
        cases os with
        | cons _ _ => (have h : false = true := h; cases h)
        | nil =>
          cases rs with
          | nil => (have h : false = true := h; cases h)
          | cons r rs =>
            cases rs with
            | cons _ _ => (have h : false = true := h; cases h)
            | nil =>
              unfold corr at h
              obtain ⟨h, h5⟩ := ba h
              obtain ⟨h, h4⟩ := ba h
              obtain ⟨h, h3⟩ := ba h
              obtain ⟨h1, h2⟩ := ba h
              have hfr := nf h1
              subst hfr
              have e := of_decide_eq_true h2
              subst e
              have qa := (sE xa Γ k a cx h3).1
              have qb := (sE xa Γ k b cx h4).1
              exact ⟨e_cmp cx qa qb (nf h5), fun _ => t_cmp cx qa qb (nf h5)⟩
    | _ => (have h : false = true := h; cases h)
  | .chn o1 o2 a b c, X, E, sc, Z, fr, pe, cx, h => by
    cases pe with
    | Compare l os rs p =>
      match os, rs, h with
      | [p1, p2], [r1, r2], h =>
        unfold corr at h
        obtain ⟨h, h7⟩ := ba h
        obtain ⟨h, h6⟩ := ba h
        obtain ⟨h, h5⟩ := ba h
        obtain ⟨h, h4⟩ := ba h
        obtain ⟨h, h3⟩ := ba h
        obtain ⟨h1, h2⟩ := ba h
        have hfr := nf h1
        subst hfr
        have e1 := of_decide_eq_true h2
        have e2 := of_decide_eq_true h3
        subst e1 e2
        have qa := (sE xa Γ k a cx h4).1
        have qb := (sE xa Γ k b cx h5).1
        have qc := (sE xa Γ k c cx h6).1
        exact ⟨e_chn cx qa qb qc (nf h7), fun _ => t_chn cx qa qb qc (nf h7)⟩
      | [], _, h => (have h : false = true := h; cases h)
      | [_], _, h => (have h : false = true := h; cases h)
      | _ :: _ :: _ :: _, _, h => (have h : false = true := h; cases h)
      | [_, _], [], h => (have h : false = true := h; cases h)
      | [_, _], [_], h => (have h : false = true := h; cases h)
      | [_, _], _ :: _ :: _ :: _, h => (have h : false = true := h; cases h)
    | _ => (have h : false = true := h; cases h)
  | .lst es, X, E, sc, Z, fr, pe, cx, h => by
    cases pe with
    | List xs p =>
      unfold corr at h
      obtain ⟨h1, h2⟩ := ba h
      have q := fun fr => e_lst (p := p) (fr := fr) (sA xa Γ k es cx h1).1 h2
      exact ⟨q fr, fun _ => t_val (q false) rfl⟩
    | _ => (have h : false = true := h; cases h)
  | .tup es, X, E, sc, Z, fr, pe, cx, h => by
    cases pe with
    | Tuple xs kk p =>
      unfold corr at h
      obtain ⟨h, h3⟩ := ba h
      obtain ⟨h1, h2⟩ := ba h
      have hfr := nf h1
      subst hfr
      have q := e_tup (p := p) (kk := kk) (sA xa Γ k es cx h2).1 h3
      exact ⟨q, fun _ => t_val q rfl⟩
    | _ => (have h : false = true := h; cases h)
  | .idx a b, X, E, sc, Z, fr, pe, cx, h => by
    cases pe with
    | Subscript v s p =>
      unfold corr at h
      obtain ⟨h, h4⟩ := ba h
      obtain ⟨h, h3⟩ := ba h
      obtain ⟨h1, h2⟩ := ba h
      have hfr := nf h1
      subst hfr
      have q := e_idx (p := p) cx (sE xa Γ k a cx h2).1 (sE xa Γ k b cx h3).1 h4
      exact ⟨q, fun _ => t_val q rfl⟩
    | _ => (have h : false = true := h; cases h)
  | .rev a, X, E, sc, Z, fr, pe, cx, h => by
    unfold corr at h
    split at h <;> try contradiction
    rename_i heq
    cases heq
    obtain ⟨h1, h2⟩ := ba h
    have e := of_decide_eq_true h1
    subst e
    exact ⟨e_rev cx (sE xa Γ k a cx h2).1, fun _ => t_val (e_rev cx (sE xa Γ k a cx h2).1) rfl⟩
  | .lrg a, X, E, sc, Z, fr, pe, cx, h => by
    unfold corr at h
    split at h <;> try contradiction
    rename_i heq
    cases heq
    obtain ⟨h, h6⟩ := ba h
    obtain ⟨h, h5⟩ := ba h
    obtain ⟨h, h4⟩ := ba h
    obtain ⟨h, h3⟩ := ba h
    obtain ⟨h1, h2⟩ := ba h
    have e := of_decide_eq_true h2
    subst e
    have e := of_decide_eq_true h4
    subst e
    exact ⟨e_lrg cx h1 h3 h5 (sE xa Γ k a cx h6).1, fun _ => t_val (e_lrg cx h1 h3 h5 (sE xa Γ k a cx h6).1) rfl⟩
  | .lrg2 a b, X, E, sc, Z, fr, pe, cx, h => by
    unfold corr at h
    split at h <;> try contradiction
    rename_i heq
    cases heq
    obtain ⟨h, h8⟩ := ba h
    obtain ⟨h, h7⟩ := ba h
    obtain ⟨h, h6⟩ := ba h
    obtain ⟨h, h5⟩ := ba h
    obtain ⟨h, h4⟩ := ba h
    obtain ⟨h, h3⟩ := ba h
    obtain ⟨h1, h2⟩ := ba h
    have e := of_decide_eq_true h2
    subst e
    have e := of_decide_eq_true h4
    subst e
    exact ⟨e_lrg2 cx h1 h3 h5 h6 (sE xa Γ k a cx h7).1 (sE xa Γ k b cx h8).1, fun _ => t_val (e_lrg2 cx h1 h3 h5 h6 (sE xa Γ k a cx h7).1 (sE xa Γ k b cx h8).1) rfl⟩
  | .idxo i b, X, E, sc, Z, fr, pe, cx, h => by
    unfold corr at h
    split at h <;> try contradiction
    rename_i heq
    cases heq
    obtain ⟨h, h5⟩ := ba h
    obtain ⟨h, h4⟩ := ba h
    obtain ⟨h, h3⟩ := ba h
    obtain ⟨h1, h2⟩ := ba h
    have hfr := nf h1
    subst hfr
    refine ⟨e_idxo cx (of_decide_eq_true h2) h3 (sE xa Γ k b cx h4).1 h5, fun _ => t_val (e_idxo cx (of_decide_eq_true h2) h3 (sE xa Γ k b cx h4).1 h5) rfl⟩
  | .sl a lo hi, X, E, sc, Z, fr, pe, cx, h => by
    cases pe with
    | Subscript v s p =>
      cases s with
      | Slice l u st p2 =>
        cases st with
        | none =>
          unfold corr at h
          obtain ⟨h, h3⟩ := ba h
          obtain ⟨h1, h2⟩ := ba h
          have q := fun fr => e_sl (p := p) (p2 := p2) (fr := fr) cx (sE xa Γ k a cx h1).1 (sO xa Γ k lo cx h2) (sO xa Γ k hi cx h3)
          exact ⟨q fr, fun _ => t_val (q false) rfl⟩
        | some _ => (have h : false = true := h; cases h)
      | _ => (have h : false = true := h; cases h)
    | _ => (have h : false = true := h; cases h)
  | .call g es, X, E, sc, Z, fr, pe, cx, h => by
    cases pe with
    | Call f as ks p =>
      cases f with
      | Name x p1 =>
        cases as with
        | nil =>
          cases ks with
          | cons _ _ => cases es <;> (have h : false = true := h; cases h)
          | nil =>
            cases es with
            | cons _ _ => (have h : false = true := h; cases h)
            | nil =>
              unfold corr at h
              obtain ⟨h, h4⟩ := ba h
              obtain ⟨h1, h2⟩ := ba h
              split at h4
              · rename_i f hf
                obtain ⟨h4, h9⟩ := ba h4
                obtain ⟨h5, h6⟩ := ba h4
                have q := fun fr (hfr : fr = true → f.fr = true) => e_call0 (p := p1) (pos := p) (fr := fr) cx hf (of_decide_eq_true h5) h1 h2 (List.isEmpty_iff.mp h6) hfr
                refine ⟨q fr fun e => ?_, fun _ => t_val (q false fun e => by cases e) rfl⟩
                subst e
                exact h9
              · cases h4
        | cons y ys =>
          cases ks with
          | cons _ _ => (have h : false = true := h; cases h)
          | nil =>
            unfold corr at h
            obtain ⟨h, h4⟩ := ba h
            obtain ⟨h, h3⟩ := ba h
            obtain ⟨h1, h2⟩ := ba h
            split at h4
            · rename_i f hf
              obtain ⟨h4, h9⟩ := ba h4
              obtain ⟨h4, h8⟩ := ba h4
              obtain ⟨h4, h7⟩ := ba h4
              obtain ⟨h5, h6⟩ := ba h4
              obtain ⟨qa, qs, _⟩ := sA xa Γ k es cx h3
              have q := fun fr (hfr : fr = true → f.fr = true) => e_call (p := p1) (pos := p) (fr := fr) cx hf (of_decide_eq_true h5) h1 h2 qs h6 h7 hfr qa
              refine ⟨q fr fun e => ?_, fun _ => t_val (q false fun e => by cases e) rfl⟩
              subst e
              exact h9
            · cases h4
      | _ => (have h : false = true := h; cases h)
    | _ => (have h : false = true := h; cases h)
  | .callk g perm es ks, X, E, sc, Z, fr, pe, cx, h => by
    cases pe with
    | Call f as kws p =>
      cases f with
      | Name x p1 =>
        unfold corr at h
        obtain ⟨h, h8⟩ := ba h
        obtain ⟨h, h7⟩ := ba h
        obtain ⟨h, h6⟩ := ba h
        obtain ⟨h, h5⟩ := ba h
        obtain ⟨h, h4⟩ := ba h
        obtain ⟨h2, h3⟩ := ba h
        split at h8
        · rename_i f hf
          obtain ⟨h8, h13⟩ := ba h8
          obtain ⟨h8, h12⟩ := ba h8
          obtain ⟨h8, h11⟩ := ba h8
          obtain ⟨h8, h10⟩ := ba h8
          obtain ⟨h8, h9⟩ := ba h8
          split at h13
          · rename_i ns hns
            obtain ⟨qa, qs, ql⟩ := sA xa Γ k es cx h4
            obtain ⟨qk, qkl⟩ := sK xa Γ k ks cx h5
            have q := e_callk (p := p1) (pos := p) cx hf (of_decide_eq_true h8) h2 h3 qs (List.isEmpty_iff.mp h9) h10 (of_decide_eq_true h11) hns (of_decide_eq_true h13) h6 h7 ql qkl qa qk
            exact ⟨q, fun e => by subst e; exact t_val q rfl⟩
          · cases h13
        · cases h8
      | _ => (have h : false = true := h; cases h)
    | _ => (have h : false = true := h; cases h)
  | .callv i es, X, E, sc, Z, fr, pe, cx, h => by
    cases pe with
    | Call f as ks p =>
      cases f with
      | Name x p1 =>
        cases as with
        | nil => (have h : false = true := h; cases h)
        | cons y ys =>
          cases ks with
          | cons _ _ => (have h : false = true := h; cases h)
          | nil =>
            unfold corr at h
            obtain ⟨h, h5⟩ := ba h
            obtain ⟨h, h4⟩ := ba h
            obtain ⟨h, h3⟩ := ba h
            obtain ⟨h1, h2⟩ := ba h
            have hfr := nf h1
            subst hfr
            obtain ⟨qa, qs, _⟩ := sA xa Γ k es cx h4
            have q := e_callv (p := p1) (pos := p) cx h3 (of_decide_eq_false (nf h2)) qs h5 qa
            exact ⟨q, fun _ => t_val q rfl⟩
      | _ => (have h : false = true := h; cases h)
    | _ => (have h : false = true := h; cases h)
  | .bi b es, X, E, sc, Z, fr, pe, cx, h => by
    cases pe with
    | Call f as ks p =>
      cases f with
      | Name x p1 =>
        cases as with
        | nil => (have h : false = true := h; cases h)
        | cons y ys =>
          cases ks with
          | cons _ _ => (have h : false = true := h; cases h)
          | nil =>
            unfold corr at h
            obtain ⟨h, h4⟩ := ba h
            obtain ⟨h, h3⟩ := ba h
            obtain ⟨h1, h2⟩ := ba h
            have e := of_decide_eq_true h2
            subst e
            obtain ⟨qa, qs, _⟩ := sA xa Γ k es cx h3
            rw [List.all_cons, Bool.and_eq_true] at qs
            have q := fun fr => e_bi (p := p1) (pos := p) (fr := fr) cx h1 qs.1 qs.2 qa h4
            exact ⟨q fr, fun _ => t_val (q false) rfl⟩
      | _ => (have h : false = true := h; cases h)
    | _ => (have h : false = true := h; cases h)
  | .bits a, X, E, sc, Z, fr, pe, cx, h => by
    cases pe with
    | Call f as ks p =>
      cases f with
      | Attribute o n ap =>
        cases as with
        | cons _ _ => (have h : false = true := h; cases h)
        | nil =>
          cases ks with
          | cons _ _ => (have h : false = true := h; cases h)
          | nil =>
            unfold corr at h
            obtain ⟨h, h5⟩ := ba h
            obtain ⟨h, h4⟩ := ba h
            obtain ⟨h, h3⟩ := ba h
            obtain ⟨h1, h2⟩ := ba h
            have hfr := nf h1
            subst hfr
            have e := of_decide_eq_true h2
            subst e
            have q := e_bits (ap := ap) (p := p) (sE xa Γ k a cx h3).1 h4 h5
            exact ⟨q, fun _ => t_val q rfl⟩
      | _ => (have h : false = true := h; cases h)
    | _ => (have h : false = true := h; cases h)
  | .sm m a b, X, E, sc, Z, fr, pe, cx, h => by
    unfold corr at h
    split at h <;> try contradiction
    rename_i heq
    cases heq
    obtain ⟨h, h7⟩ := ba h
    obtain ⟨h, h6⟩ := ba h
    obtain ⟨h, h5⟩ := ba h
    obtain ⟨h, h4⟩ := ba h
    obtain ⟨h, h3⟩ := ba h
    obtain ⟨h1, h2⟩ := ba h
    have hfr := nf h1
    subst hfr
    have e := of_decide_eq_true h2
    subst e
    exact ⟨e_sm cx (sE xa Γ k a cx h3).1 h4 h5 (sE xa Γ k b cx h6).1 h7, fun _ => t_val (e_sm cx (sE xa Γ k a cx h3).1 h4 h5 (sE xa Γ k b cx h6).1 h7) rfl⟩
  | .lenset a, X, E, sc, Z, fr, pe, cx, h => by
    unfold corr at h
    split at h <;> try contradiction
    rename_i heq
    cases heq
    obtain ⟨h, h7⟩ := ba h
    obtain ⟨h, h6⟩ := ba h
    obtain ⟨h, h5⟩ := ba h
    obtain ⟨h, h4⟩ := ba h
    obtain ⟨h, h3⟩ := ba h
    obtain ⟨h1, h2⟩ := ba h
    have hfr := nf h1
    subst hfr
    have e := of_decide_eq_true h3
    subst e
    have e := of_decide_eq_true h5
    subst e
    exact ⟨e_lenset cx h2 h4 h6 (sE xa Γ k a cx h7).1, fun _ => t_val (e_lenset cx h2 h4 h6 (sE xa Γ k a cx h7).1) rfl⟩
  | .idxof a b, X, E, sc, Z, fr, pe, cx, h => by
    unfold corr at h
    split at h <;> try contradiction
    rename_i heq
    cases heq
    obtain ⟨h, h7⟩ := ba h
    obtain ⟨h, h6⟩ := ba h
    obtain ⟨h, h5⟩ := ba h
    obtain ⟨h, h4⟩ := ba h
    obtain ⟨h, h3⟩ := ba h
    obtain ⟨h1, h2⟩ := ba h
    have hfr := nf h1
    subst hfr
    have e := of_decide_eq_true h2
    subst e
    exact ⟨e_idxof cx (sE xa Γ k a cx h3).1 h4 h5 (sE xa Γ k b cx h6).1 h7, fun _ => t_val (e_idxof cx (sE xa Γ k a cx h3).1 h4 h5 (sE xa Γ k b cx h6).1 h7) rfl⟩
  | .pop i es, X, E, sc, Z, fr, pe, cx, h => by
    cases pe with
    | Call f as ks p =>
      cases f with
      | Attribute o n ap =>
        cases o with
        | Name x xp =>
          cases ks with
          | nil =>
            unfold corr at h
            obtain ⟨h, h8⟩ := ba h
            obtain ⟨h, h7⟩ := ba h
            obtain ⟨h, h6⟩ := ba h
            obtain ⟨h, h5⟩ := ba h
            obtain ⟨h, h4⟩ := ba h
            obtain ⟨h, h3⟩ := ba h
            obtain ⟨h1, h2⟩ := ba h
            have hfr := nf h1
            subst hfr
            have e := of_decide_eq_true h2
            subst e
            obtain ⟨qa, qs, ql⟩ := sA xa Γ k es cx h5
            have h8 := of_decide_eq_true h8
            have q : PE X (.Call (.Attribute (.Name x xp) "pop" ap) as [] p) (semE xa E Z (CF Γ.T k) false (.pop i es)) := by
              match as, qa, qs, ql, h8 with
              | [], _, _, ql, _ =>
                cases es with
                | nil => exact e_pop0 cx (of_decide_eq_true h3) h4 h7
                | cons e es => cases e <;> simp [IEs.owns] at ql
              | [y], qa, qs, ql, _ =>
                rw [List.all_cons, Bool.and_eq_true] at qs
                exact e_popAt cx (of_decide_eq_true h3) h4 qs.1 qa h6 ql h7
              | _ :: _ :: _, _, _, _, h8 => simp at h8
            exact ⟨q, fun _ => t_val q rfl⟩
          | cons _ _ => (have h : false = true := h; cases h)
        | _ => (have h : false = true := h; cases h)
      | _ => (have h : false = true := h; cases h)
    | _ => (have h : false = true := h; cases h)
  | .xval a, X, E, sc, Z, fr, pe, cx, h => by
    unfold corr at h
    split at h <;> try contradiction
    rename_i heq
    cases heq
    obtain ⟨h, h4⟩ := ba h
    obtain ⟨h, h3⟩ := ba h
    obtain ⟨h1, h2⟩ := ba h
    have hfr := nf h1
    subst hfr
    have e := of_decide_eq_true h2
    subst e
    have q := fun ap => e_xval (ap := ap) cx (sE xa Γ k a cx h3).1 h4
    exact ⟨q _, fun _ => t_val (q _) rfl⟩
  | .isx a j, X, E, sc, Z, fr, pe, cx, h => by
    unfold corr at h
    split at h <;> try contradiction
    rename_i heq
    cases heq
    obtain ⟨h, h8⟩ := ba h
    obtain ⟨h, h7⟩ := ba h
    obtain ⟨h, h6⟩ := ba h
    obtain ⟨h, h5⟩ := ba h
    obtain ⟨h, h4⟩ := ba h
    obtain ⟨h, h3⟩ := ba h
    obtain ⟨h1, h2⟩ := ba h
    have hfr := nf h1
    subst hfr
    have e := of_decide_eq_true h3
    subst e
    have q := fun p1 p2 pos => e_isx (p1 := p1) (p2 := p2) (pos := pos) cx h2 h4 (sE xa Γ k a cx h5).1 h6 h7 (of_decide_eq_true h8)
    exact ⟨q _ _ _, fun _ => t_val (q _ _ _) rfl⟩
  | .lc vs tg it c e, X, E, sc, Z, fr, pe, cx, h => by
    cases pe with
    | ListComp elt gs scope p =>
      match gs, h with
      | [⟨t, iter, ifs, kk⟩], h =>
        unfold corr at h
        obtain ⟨h, h10⟩ := ba h
        obtain ⟨h, h9⟩ := ba h
        obtain ⟨h, h8⟩ := ba h
        obtain ⟨h, h7⟩ := ba h
        obtain ⟨h, h6⟩ := ba h
        obtain ⟨h, h5⟩ := ba h
        obtain ⟨h, h4⟩ := ba h
        obtain ⟨h, h3⟩ := ba h
        obtain ⟨h1, h2⟩ := ba h
        have e0 := of_decide_eq_true h1
        subst e0
        have hv : ∀ v ∈ vs, v ∉ Z.own := fun v hv => of_decide_eq_false (nf (List.all_eq_true.mp h2 v hv))
        have hs : ∀ i ∈ tg.slots, i ∈ vs := fun i hi => of_decide_eq_true (List.all_eq_true.mp h8 i hi)
        have qi := sI xa Γ k it cx h5
        have qc := fun (s : Shared) (H : Hp) (A : Addr) (cl : List (Str × Addr)) (fp : List Addr) (Z' : Stt) (hW : Z'.W = Z.W) (ho : Z'.own = Z.own) => sC xa Γ k c (Z := Z') (sc := scope) (by rw [hW]; exact cx.blk s H A cl fp) (by rw [ho]; exact h9)
        have qe := fun (s : Shared) (H : Hp) (A : Addr) (cl : List (Str × Addr)) (fp : List Addr) (Z' : Stt) (hW : Z'.W = Z.W) (ho : Z'.own = Z.own) => (sE xa Γ k e (Z := Z') (sc := scope) (by rw [hW]; exact cx.blk s H A cl fp) (by rw [ho]; exact h10)).1
        have q : ∀ fr, PE X (.ListComp elt [⟨t, iter, ifs, 0⟩] scope p) (semE xa E Z (CF Γ.T k) fr (.lc vs tg it c e)) := fun fr => by
          have base := pe_lc (pos := p) cx.calm cx.nd qi (blk_ok cx h3) (fun s H A cl fp => g_it (cx.blk s H A cl fp) h7) (fun s H A cl fp => ⟨fun pins s σ H Q I ⟨Z', hW, ho, q⟩ => (qc _ _ _ _ _ Z' hW ho).run pins s σ H Q I q⟩)
            (fun s H A cl fp => ⟨fun pins s σ H Q I ⟨Z', hW, ho, q⟩ => (qe _ _ _ _ _ Z' hW ho).run pins s σ H Q I q⟩) (fold_ok h6) (g := gIT X.K tg) (tt := anyC Z.W Z.own xa (CF Γ.T k) c) (te := anyE Z.W Z.own xa (CF Γ.T k) e)
          rw [of_decide_eq_true h4] at base
          exact base.weak fun σ H Q hq => e_lc (pos := p) cx hv h3 (of_decide_eq_true h4) h6 hs h7 qi qc qe hq
        exact ⟨q fr, fun _ => t_val (q false) rfl⟩
      | [], h => (have h : false = true := h; cases h)
      | ⟨_, _, _, _⟩ :: _ :: _, h => (have h : false = true := h; cases h)
    | _ => (have h : false = true := h; cases h)
theorem sA (xa : Nat → Addr) (Γ : Cfg) (k : Nat) : (es : IEs) → ∀ {X : Cx} {E : L2.St → XK} {sc : Scope} {Z : Stt} {xs : List Expr}, CxOk X Z.W xa E Γ k sc → corrs Γ Z.own sc es xs = true →
    PA X xs (semA xa E Z (CF Γ.T k) es) ∧ xs.all notStar = true ∧ es.owns.length = xs.length
  | .nil, X, E, sc, Z, xs, cx, h => by
    cases xs with
    | nil => exact ⟨a_nil, rfl, rfl⟩
    | cons _ _ => (have h : false = true := h; cases h)
  | .cons e es, X, E, sc, Z, xs, cx, h => by
    cases xs with
    | nil => (have h : false = true := h; cases h)
    | cons x xs =>
      unfold corrs at h
      obtain ⟨h, h3⟩ := ba h
      obtain ⟨h1, h2⟩ := ba h
      obtain ⟨q1, q2, q3⟩ := sA xa Γ k es cx h3
      have hall : (x :: xs).all notStar = true := by rw [List.all_cons, h1, q2]; rfl
      by_cases ho : ∃ i, e = .own i
      · obtain ⟨i, rfl⟩ := ho
        cases x with
        | Name n p =>
          obtain ⟨h4, h5⟩ := ba h2
          exact ⟨a_own cx h5 q1, hall, by show es.owns.length + 1 = xs.length + 1; rw [q3]⟩
        | _ => (have h2 : false = true := h2; cases h2)
      · have ho : ∀ i, e ≠ .own i := fun i z => ho ⟨i, z⟩
        have h2 : corr Γ Z.own sc false e x = true := by
          split at h2
          · exact absurd rfl (ho _)
          · exact h2
        exact ⟨a_cons h1 (sE xa Γ k e cx h2).1 q1 ho, hall, by rw [owns_cons ho]; simp [q3]⟩
theorem sK (xa : Nat → Addr) (Γ : Cfg) (k : Nat) : (es : IEs) → ∀ {X : Cx} {E : L2.St → XK} {sc : Scope} {Z : Stt} {xs : List Keyword}, CxOk X Z.W xa E Γ k sc → corrk Γ Z.own sc es xs = true →
    PK X xs (semA xa E Z (CF Γ.T k) es) ∧ es.owns.length = xs.length
  | .nil, X, E, sc, Z, xs, cx, h => by
    cases xs with
    | nil => exact ⟨k_nil, rfl⟩
    | cons _ _ => (have h : false = true := h; cases h)
  | .cons e es, X, E, sc, Z, xs, cx, h => by
    cases xs with
    | nil => (have h : false = true := h; cases h)
    | cons x xs =>
      obtain ⟨nm, x, p⟩ := x
      unfold corrk at h
      obtain ⟨h2, h3⟩ := ba h
      obtain ⟨q1, q3⟩ := sK xa Γ k es cx h3
      have ho : ∀ i, e ≠ .own i := fun i z => by subst z; cases x <;> (have h2 : false = true := h2; cases h2)
      exact ⟨k_cons (sE xa Γ k e cx h2).1 q1 ho, by rw [owns_cons ho]; simp [q3]⟩
theorem sO (xa : Nat → Addr) (Γ : Cfg) (k : Nat) : (o : IO) → ∀ {X : Cx} {E : L2.St → XK} {sc : Scope} {Z : Stt} {x : Option Expr}, CxOk X Z.W xa E Γ k sc → corro Γ Z.own sc o x = true → PO X x (semO xa E Z (CF Γ.T k) o)
  | .none, X, E, sc, Z, x, cx, h => by
    cases x with
    | none => exact o_none
    | some _ => (have h : false = true := h; cases h)
  | .some e, X, E, sc, Z, x, cx, h => by
    cases x with
    | none => (have h : false = true := h; cases h)
    | some x =>
      unfold corro at h
      exact o_some (sE xa Γ k e cx h).1
theorem sC (xa : Nat → Addr) (Γ : Cfg) (k : Nat) : (o : IO) → ∀ {X : Cx} {E : L2.St → XK} {sc : Scope} {Z : Stt} {xs : List Expr}, CxOk X Z.W xa E Γ k sc → corrc Γ Z.own sc o xs = true → PTs X xs (semC xa E Z (CF Γ.T k) o)
  | .none, X, E, sc, Z, xs, cx, h => by
    cases xs with
    | nil => exact c_none
    | cons _ _ => (have h : false = true := h; cases h)
  | .some e, X, E, sc, Z, xs, cx, h => by
    match xs, h with
    | [], h => (have h : false = true := h; cases h)
    | [x], h =>
      unfold corrc at h
      exact c_some ((sE xa Γ k e cx h).2 rfl)
    | _ :: _ :: _, h => (have h : false = true := h; cases h)
theorem sI (xa : Nat → Addr) (Γ : Cfg) (k : Nat) : (it : II) → ∀ {X : Cx} {E : L2.St → XK} {sc : Scope} {Z : Stt} {tg x : Expr}, CxOk X Z.W xa E Γ k sc → corri Γ Z.own sc it tg x = true → PI X tg x (semI xa E Z (CF Γ.T k) it)
  | .val e, X, E, sc, Z, tg, x, cx, h => by
    unfold corri at h
    exact i_val cx (sE xa Γ k e cx h).1
  | .rng e, X, E, sc, Z, tg, x, cx, h => by
    match x, h with
    | .Call (.Name n _) [y] [] _, h =>
      unfold corri at h
      obtain ⟨h, h4⟩ := ba h
      obtain ⟨h, h3⟩ := ba h
      obtain ⟨h1, h2⟩ := ba h
      have e0 := of_decide_eq_true h2
      subst e0
      exact i_rng cx h1 h3 (sE xa Γ k e cx h4).1
  | .rng2 a b, X, E, sc, Z, tg, x, cx, h => by
    match x, h with
    | .Call (.Name n _) [y, z] [] _, h =>
      unfold corri at h
      obtain ⟨h, h6⟩ := ba h
      obtain ⟨h, h5⟩ := ba h
      obtain ⟨h, h4⟩ := ba h
      obtain ⟨h, h3⟩ := ba h
      obtain ⟨h1, h2⟩ := ba h
      have e0 := of_decide_eq_true h2
      subst e0
      exact i_rng2 cx h1 h3 h4 (sE xa Γ k a cx h5).1 (sE xa Γ k b cx h6).1
  | .enum e, X, E, sc, Z, tg, x, cx, h => by
    match tg, x, h with
    | .Tuple _ _ _, .Call (.Name n _) [y] [] _, h =>
      unfold corri at h
      obtain ⟨h, h4⟩ := ba h
      obtain ⟨h, h3⟩ := ba h
      obtain ⟨h1, h2⟩ := ba h
      have e0 := of_decide_eq_true h2
      subst e0
      exact i_enum cx h1 h3 (sE xa Γ k e cx h4).1
  | .zip a b, X, E, sc, Z, tg, x, cx, h => by
    match tg, x, h with
    | .Tuple _ _ _, .Call (.Name n _) [y, z] [] _, h =>
      unfold corri at h
      obtain ⟨h, h6⟩ := ba h
      obtain ⟨h, h5⟩ := ba h
      obtain ⟨h, h4⟩ := ba h
      obtain ⟨h, h3⟩ := ba h
      obtain ⟨h1, h2⟩ := ba h
      have e0 := of_decide_eq_true h2
      subst e0
      exact i_zip cx h1 h3 h4 (sE xa Γ k a cx h5).1 (sE xa Γ k b cx h6).1
end
end VI
/-! VIi0: statements. -/
namespace VI
open PySem PySem.Spec PyProof.Rows L2

/-! ### what never goes on -/
mutual
def stops : IS → Bool
  | .ret _ => true
  | .retOwn _ => true
  | .brk => true
  | .cnt => true
  | .raise _ _ => true
  | .never => true
  | .ifs _ a b => stopss a && stopss b
  | _ => false
def stopss : ISs → Bool
  | .nil => false
  | .cons s ss => stops s || stopss ss
end
theorem sbind_next {α : Type} {r : Res α} {f : α → Env → SRes} {env' : Env} (h : r.sbind f = .next env') : ∃ a e, r = .ok a e ∧ f a e = .next env' := by
  cases r with
  | ok a e => exact ⟨a, e, rfl, h⟩
  | exc k d => cases h
  | bad => cases h
mutual
theorem stops_ok (C : CT) : (s : IS) → stops s = true → ∀ env env', ex C s env ≠ .next env'
  | .ret e, _, env, env', q => by
    unfold ex at q
    obtain ⟨a, e1, _, q⟩ := sbind_next q
    cases q
  | .retOwn i, _, env, env', q => by
    unfold ex at q
    split at q <;> cases q
  | .brk, _, env, env', q => by unfold ex at q; cases q
  | .cnt, _, env, env', q => by unfold ex at q; cases q
  | .raise k e, _, env, env', q => by
    unfold ex at q
    obtain ⟨a, e1, _, q⟩ := sbind_next q
    cases q
  | .never, _, env, env', q => by unfold ex at q; cases q
  | .ifs c a b, h, env, env', q => by
    unfold stops at h
    obtain ⟨h1, h2⟩ := ba h
    unfold ex at q
    obtain ⟨t, e1, _, q⟩ := sbind_next q
    cases t with
    | true => exact stopss_ok C a h1 e1 env' q
    | false => exact stopss_ok C b h2 e1 env' q
  | .set .., h, _, _, _ => by unfold stops at h; cases h
  | .par .., h, _, _, _ => by unfold stops at h; cases h
  | .par3 .., h, _, _, _ => by unfold stops at h; cases h
  | .parf .., h, _, _, _ => by unfold stops at h; cases h
  | .app .., h, _, _, _ => by unfold stops at h; cases h
  | .seti .., h, _, _, _ => by unfold stops at h; cases h
  | .expr .., h, _, _, _ => by unfold stops at h; cases h
  | .whl .., h, _, _, _ => by unfold stops at h; cases h
  | .for_ .., h, _, _, _ => by unfold stops at h; cases h
  | .pass, h, _, _, _ => by unfold stops at h; cases h
  | .frz .., h, _, _, _ => by unfold stops at h; cases h
  | .mark .., h, _, _, _ => by unfold stops at h; cases h
  | .deep .., h, _, _, _ => by unfold stops at h; cases h
theorem stopss_ok (C : CT) : (ss : ISs) → stopss ss = true → ∀ env env', exs C ss env ≠ .next env'
  | .nil, h, _, _, _ => by unfold stopss at h; cases h
  | .cons s ss, h, env, env', q => by
    unfold stopss at h
    unfold exs at q
    split at q
    · rename_i e1 e2
      rcases Bool.or_eq_true_iff.mp h with h | h
      · exact stops_ok C s h env e1 e2
      · exact stopss_ok C ss h e1 env' q
    · rename_i hne
      exact hne _ q
end

/-! ### what a statement asks -/
/-- what a return gives -/
def RetV (Z : Stt) (fr : Bool) (S H : Hp) (d : D) (v : V) : Prop := (fr = true → ∃ p es ws, d = .lst es ∧ v = .ref p ∧ H p = some (.lst ws) ∧ S p = none ∧ Reps Z.W S es ws ∧ Z.H0 p = none) ∧ (fr = false → Rep Z.W S d v)
def FinS (ex : Nat → D → Prop) (Z : Stt) (S : Hp) (own' lp : List Nat) (fr : Bool) (r : SRes) (D : Ends) : Prop := match r with
  | .next env' => ∀ σ' H' S', Rel { Z with own := own' } σ' S' H' env' → Sub S S' → D.nx σ' H'
  | .brk env' => ∀ σ' H' S', Rel { Z with own := lp } σ' S' H' env' → Sub S S' → D.bk σ' H'
  | .cnt env' => ∀ σ' H' S', Rel { Z with own := lp } σ' S' H' env' → Sub S S' → D.ct σ' H'
  | .ret d env' => (fr = true → isL d = true) ∧ ∀ own2 v σ' H' S', Rel { Z with own := own2 } σ' S' H' env' → Sub S S' → RetV Z fr S' H' d v → D.rt v H'
  | .exc k d => ex k d
  | .bad => False
theorem FinS.mono {ex : Nat → D → Prop} {Z : Stt} {S S' : Hp} {own' lp : List Nat} {fr : Bool} {r : SRes} {D : Ends} (h : FinS ex Z S own' lp fr r D) (hs : Sub S S') : FinS ex Z S' own' lp fr r D := by
  cases r with
  | next env' => exact fun σ' H' S2 R s2 => h σ' H' S2 R (hs.trans s2)
  | brk env' => exact fun σ' H' S2 R s2 => h σ' H' S2 R (hs.trans s2)
  | cnt env' => exact fun σ' H' S2 R s2 => h σ' H' S2 R (hs.trans s2)
  | ret d env' => exact ⟨h.1, fun own2 v σ' H' S2 R s2 => h.2 own2 v σ' H' S2 R (hs.trans s2)⟩
  | exc k d => exact h
  | bad => exact h
/-- an expression ahead of a statement's rest -/
theorem FinS.bind {α β : Type} {ex : Nat → D → Prop} {Z : Stt} {σ : L2.St} {S : Hp} {V1 : Hp → Hp → Env → α → β → Prop} {own' lp : List Nat} {fr : Bool} {r : Res α} {f : α → Env → SRes} {D : Ends} (h : FinS ex Z S own' lp fr (r.sbind f) D) :
    Fin ex Z σ S V1 r (fun b H' => ∃ S' env' a, r = .ok a env' ∧ Rel Z σ S' H' env' ∧ Sub S S' ∧ V1 S' H' env' a b ∧ FinS ex Z S' own' lp fr (f a env') D) := by
  cases r with
  | ok a env' => exact fun b H' S' R hs v => ⟨S', env', a, rfl, R, hs, v, FinS.mono (r := f a env') h hs⟩
  | exc k d => exact h
  | bad => exact h
def sameM (a b : List Nat) : Bool := a.all (fun i => decide (i ∈ b)) && b.all (fun i => decide (i ∈ a))
theorem sameM_ok {a b : List Nat} (h : sameM a b = true) : ∀ i, i ∈ a ↔ i ∈ b := fun i => by
  obtain ⟨h1, h2⟩ := ba h
  exact ⟨fun z => of_decide_eq_true (List.all_eq_true.mp h1 i z), fun z => of_decide_eq_true (List.all_eq_true.mp h2 i z)⟩
/-- marks that agree as sets, where the end is reached -/
theorem FinS.marks {ex : Nat → D → Prop} {Z : Stt} {S : Hp} {own1 own2 lp : List Nat} {fr : Bool} {r : SRes} {D : Ends} (h : FinS ex Z S own2 lp fr r D) (hm : (∀ env', r ≠ .next env') ∨ ∀ i, i ∈ own1 ↔ i ∈ own2) : FinS ex Z S own1 lp fr r D := by
  cases r with
  | next env' =>
    rcases hm with hm | hm
    · exact absurd rfl (hm env')
    · exact fun σ' H' S' R hs => h σ' H' S' (Rel.marks (Z := { Z with own := own1 }) R fun i => (hm i).symm) hs
  | brk env' => exact h
  | cnt env' => exact h
  | ret d env' => exact h
  | exc k d => exact h
  | bad => exact h
section
variable (xa : Nat → Addr) (E : XK) (Z : Stt) (C : CT) (own' lp : List Nat) (fr : Bool)
def semS (s : IS) : TS := fun D σ H => ∃ S env, Rel Z σ S H env ∧ FinS (Exs Z.W xa E Z) Z S own' lp fr (ex C s env) D
def semSs (ss : ISs) : TS := fun D σ H => ∃ S env, Rel Z σ S H env ∧ FinS (Exs Z.W xa E Z) Z S own' lp fr (exs C ss env) D
end

/-! ### the match -/
/-- name = [..] exchanges its stores -/
def swB (sc : Scope) (x : Str) (px : Pos) : Expr → Bool
  | .ListComp _ _ s pos => (sc.names.lookup x == some .local) && (px.line == pos.line) && !(s.names.any fun y => y.1 == x && (y.2 == .local || y.2 == .cell))
  | .SetComp .. => true
  | .DictComp .. => true
  | _ => false
def starX : Expr → Bool
  | .Starred .. => true
  | _ => false
def lineN (sc : Scope) (line : Nat) : Expr → Option Str
  | .Name x p => if sc.names.lookup x == some .local && p.line == line then some x else none
  | _ => none
/-- a, b = x, y: whether the stores are exchanged, and of which names -/
def swS (sc : Scope) (ts vs : List Expr) : Option (Option (List Str)) :=
  if (!(ts.length == 2 || ts.length == 3) || vs.length != ts.length) = true then some none
  else if vs.any starX = true then some none
  else
    let names := ts.filterMap (lineN sc ((ts.head?.map (·.pos.line)).getD 0))
    if (names.length != ts.length || names.eraseDups.length != names.length) = true then some none
    else if vs.all (foldedForSure 8) = true then some none
    else if vs.all (constantsAlone 8) = true then none
    else some (some names)
theorem swB_ok {env : PySem.Env} {sc : Scope} {x : Str} {px : Pos} {e : Expr} {l : Nat} (hs : env.scope = sc) (hk : sc.kind = .function) (hn : (match e with
    | .SetComp .. => true
    | .DictComp .. => true
    | _ => false) = false) : swapsWith e (some (.Name x px)) l env = pure (swB sc x px e) := by
  subst hs
  have hb : env.blockKind = .function := by unfold PySem.Env.blockKind; rw [hk]; rfl
  cases e <;> first | rfl | (cases hn) | skip
  unfold swapsWith swB
  simp only [hb]
  rfl
theorem swS_ok {env : PySem.Env} {sc : Scope} {ts vs : List Expr} {a b : Nat} {c d : Pos} {o : Option (List Str)} (hs : env.scope = sc) (hk : sc.kind = .function) (h : swS sc ts vs = some o) : swappedStores [.Tuple ts a c] (.Tuple vs b d) env = pure o := by
  subst hs
  have hb : env.blockKind = .function := by unfold PySem.Env.blockKind; rw [hk]; rfl
  unfold swS at h
  unfold swappedStores
  simp only [hb]
  change (if (!(ts.length == 2 || ts.length == 3) || vs.length != ts.length || ScopeKind.function != ScopeKind.function) = true then pure none
    else if vs.any starX = true then pure none
    else if ((List.filterMap (lineN env.scope ((ts.head?.map (·.pos.line)).getD 0)) ts).length != ts.length || (List.filterMap (lineN env.scope ((ts.head?.map (·.pos.line)).getD 0)) ts).eraseDups.length != (List.filterMap (lineN env.scope ((ts.head?.map (·.pos.line)).getD 0)) ts).length) = true then pure none
    else if vs.all (foldedForSure 8) = true then pure none
    else if vs.all (constantsAlone 8) = true then (unsupported "assign.tuple-of-constant-expressions:order-of-the-stores" >>= fun _ => pure (some (List.filterMap (lineN env.scope ((ts.head?.map (·.pos.line)).getD 0)) ts)))
    else pure (some (List.filterMap (lineN env.scope ((ts.head?.map (·.pos.line)).getD 0)) ts))) = pure o
  have e0 : (!(ts.length == 2 || ts.length == 3) || vs.length != ts.length || ScopeKind.function != ScopeKind.function) = (!(ts.length == 2 || ts.length == 3) || vs.length != ts.length) := Bool.or_false _
  rw [e0]
  split at h
  · rename_i q; rw [if_pos q]; cases h; rfl
  rename_i q; rw [if_neg q]
  split at h
  · rename_i q; rw [if_pos q]; cases h; rfl
  rename_i q; rw [if_neg q]
  simp only at h
  split at h
  · rename_i q; rw [if_pos q]; cases h; rfl
  rename_i q; rw [if_neg q]
  split at h
  · rename_i q; rw [if_pos q]; cases h; rfl
  rename_i q; rw [if_neg q]
  split at h
  · cases h
  rename_i q; rw [if_neg q]
  cases h
  rfl
def lcOk : IE → Expr → Bool
  | .lc .., .ListComp .. => true
  | _, .ListComp .. => false
  | _, .SetComp .. => false
  | _, .DictComp .. => false
  | _, _ => true
def setOk (sc : Scope) (e : IE) : IT → Bool → Expr → Expr → Bool
  | .nm _, _, .Name .., x => lcOk e x
  | .tp _, false, .Tuple ts _ _, .Tuple vs _ _ => (match swS sc ts vs with
    | some none => true
    | _ => false)
  | .tp _, false, .Tuple .., _ => true
  | _, _, _, _ => false
def lclC (Γ : Cfg) (sc : Scope) (i : Nat) (x : Str) : Bool := decide (Γ.N[i]? = some x) && (sc.names.lookup x == some .local)
mutual
def corrD (Γ : Cfg) (sc : Scope) (par : List Nat) (i : Nat) (own : List Nat) : DS → Stmt → Bool
  | .appN e, .Expr (.Call (.Attribute (.Name x _) n ap) [y] [] cp) _ => decide (n = "append") && slotC Γ sc i x && notStar y && corr Γ own sc true e y && (ap.endLine == cp.line)
  | .appC c e, .Expr (.Call (.Attribute (.Subscript (.Name x _) ie _) n ap) [y] [] cp) _ => decide (n = "append") && slotC Γ sc i x && corr Γ own sc false c ie && plainIx ie && notStar y && corr Γ own sc false e y && (ap.endLine == cp.line)
  | .ifs c a b, .If t x y _ => corr Γ [] sc false c t && corrDs Γ sc par i own a x && corrDs Γ sc par i own b y
  | .for_ t it a, .For tg x body [] _ => t.slots.all (fun j => !decide (j ∈ par) && !decide (j ∈ own) && !decide (j = i)) && itC Γ sc t tg && corri Γ own sc it tg x && notSet x && corrDs Γ sc par i own a body
  | _, _ => false
def corrDs (Γ : Cfg) (sc : Scope) (par : List Nat) (i : Nat) (own : List Nat) : DSs → List Stmt → Bool
  | .nil, [] => true
  | .cons s ss, st :: sts => corrD Γ sc par i own s st && corrDs Γ sc par i own ss sts
  | _, _ => false
end
def DSs.len : DSs → Nat
  | .nil => 0
  | .cons _ ss => ss.len + 1
def initC (Γ : Cfg) (sc : Scope) (par own : List Nat) (i : Nat) : Stmt → Bool
  | .Assign [tg] x _ => (IT.nm i).slots.all (fun i => !decide (i ∈ par)) && itC Γ sc (.nm i) tg && corr Γ own sc true (.lst .nil) x && setOk sc (.lst .nil) (.nm i) true tg x
  | _ => false
mutual
def corrS (Γ : Cfg) (sc : Scope) (par : List Nat) (fr : Bool) : IS → List Nat → List Nat → Stmt → Option (List Nat)
  | .set t f e, own, _, .Assign [tg] x _ => if (t.slots.all (fun i => !decide (i ∈ par)) && itC Γ sc t tg && corr Γ own sc f e x && setOk sc e t f tg x) = true then some (if f = true then t.slots ++ own else own.filter fun j => !decide (j ∈ t.slots)) else none
  | .par i j a b, own, _, .Assign [.Tuple [.Name x px, .Name y py] k1 p1] (.Tuple [ea, eb] k2 p2) _ =>
      if (decide (i ≠ j) && !decide (i ∈ par) && !decide (j ∈ par) && lclC Γ sc i x && lclC Γ sc j y && corrs Γ own sc (.cons a (.cons b .nil)) [ea, eb] && noOwn (IEs.cons a (.cons b .nil)).owns && decide (swS sc [.Name x px, .Name y py] [ea, eb] = some (some [x, y]))) = true then some ((own.filter (· ≠ i)).filter (· ≠ j)) else none
  | .parf i j fi fj a b, own, _, .Assign [.Tuple [.Name x px, .Name y py] k1 p1] (.Tuple [ea, eb] k2 p2) _ =>
      if (decide (i ≠ j) && !decide (i ∈ par) && !decide (j ∈ par) && lclC Γ sc i x && lclC Γ sc j y && notStar ea && notStar eb && corr Γ own sc fi a ea && corr Γ own sc fj b eb && decide (swS sc [.Name x px, .Name y py] [ea, eb] = some (some [x, y]))) = true then some ((if fj = true then [j] else []) ++ ((if fi = true then [i] else []) ++ (own.filter (· ≠ i)).filter (· ≠ j))) else none
  | .par3 i j l a b c, own, _, .Assign [.Tuple [.Name x px, .Name y py, .Name z pz] k1 p1] (.Tuple [ea, eb, ec] k2 p2) _ =>
      if (decide (i ≠ j) && decide (i ≠ l) && decide (j ≠ l) && !decide (i ∈ par) && !decide (j ∈ par) && !decide (l ∈ par) && lclC Γ sc i x && lclC Γ sc j y && lclC Γ sc l z && corrs Γ own sc (.cons a (.cons b (.cons c .nil))) [ea, eb, ec] && noOwn (IEs.cons a (.cons b (.cons c .nil))).owns && decide (swS sc [.Name x px, .Name y py, .Name z pz] [ea, eb, ec] = some (some [x, y, z]))) = true then some (((own.filter (· ≠ i)).filter (· ≠ j)).filter (· ≠ l)) else none
  | .app i e, own, _, .Expr (.Call (.Attribute (.Name x _) n ap) [y] [] cp) _ => if (decide (n = "append") && decide (i ∈ own) && slotC Γ sc i x && corrs Γ own sc (.cons e .nil) [y] && noOwn (IEs.cons e .nil).owns && (ap.endLine == cp.line)) = true then some own else none
  | .seti i e1 e2, own, _, .Assign [.Subscript (.Name x _) ie _] ve _ => if (decide (i ∈ own) && slotC Γ sc i x && corr Γ own sc false e1 ie && corr Γ own sc false e2 ve && plainIx ie) = true then some own else none
  | .expr e, own, _, .Expr x _ => if (corr Γ own sc false e x && notLc x) = true then some own else none
  | .ret e, own, _, .Return (some x) _ => if corr Γ own sc fr e x = true then some own else none
  | .retOwn i, own, _, .Return (some (.Name x _)) _ => if (fr && decide (i ∈ own) && !decide (i ∈ par) && slotC Γ sc i x) = true then some own else none
  | .ifs c a b, own, lp, .If t x y _ => if corr Γ own sc false c t = true then (match corrSs Γ sc par fr a own lp x, corrSs Γ sc par fr b own lp y with
    | some o1, some o2 => if stopss b || sameM o1 o2 then some o1 else if stopss a then some o2 else none
    | _, _ => none) else none
  | .whl c a, own, _, .While t body [] _ => if corr Γ own sc false c t = true then (match corrSs Γ sc par fr a own own body with
    | some o1 => if stopss a || sameM own o1 then some own else none
    | none => none) else none
  | .for_ t it a, own, _, .For tg x body [] _ => if (t.slots.all (fun i => !decide (i ∈ par) && !decide (i ∈ own)) && itC Γ sc t tg && corri Γ own sc it tg x && notSet x) = true then (match corrSs Γ sc par fr a own own body with
    | some o1 => if stopss a || sameM own o1 then some own else none
    | none => none) else none
  | .pass, own, _, .Pass _ => some own
  | .brk, own, lp, .Break _ => if sameM lp own then some own else none
  | .cnt, own, lp, .Continue _ => if sameM lp own then some own else none
  | .never, own, _, _ => some own
  | .raise k e, own, _, .Raise (some (.Call (.Name x _) [y] [] _)) none _ => if (notStar y && glC sc x && okName x && decide (Γ.xs[k]? = some x) && corr Γ own sc false e y) = true then some own else none
  | .mark i j e, own, _, .Try [.Expr x _] [.ExceptHandler (some (.Name w _)) (some n) [.Assign [.Name m _] (.Name n2 _) _] _] [] [] _ =>
      if (own.isEmpty && decide (i ≠ j) && lclC Γ sc i n && lclC Γ sc j m && decide (n = n2) && okName n && glC sc w && okName w && decide (Γ.xb = w) && !decide (w = "") && corr Γ [] sc false e x && notLc x) = true then some [] else none
  | _, _, _, _ => none
def corrSs (Γ : Cfg) (sc : Scope) (par : List Nat) (fr : Bool) : ISs → List Nat → List Nat → List Stmt → Option (List Nat)
  | .nil, own, _, [] => some own
  | .cons (.frz i) ss, own, lp, sts => if decide (i ∈ par) = true then none else corrSs Γ sc par fr ss (own.filter (· ≠ i)) lp sts
  | .cons .never _, own, _, _ => some own
  | .cons (.deep i b) ss, own, lp, st0 :: sts => if (initC Γ sc par own i st0 && corrDs Γ sc par i (own.filter (· ≠ i)) b (sts.take b.len)) = true then corrSs Γ sc par fr ss (own.filter (· ≠ i)) lp (sts.drop b.len) else none
  | .cons s ss, own, lp, st :: sts => (match corrS Γ sc par fr s own lp st with
    | some o1 => corrSs Γ sc par fr ss o1 lp sts
    | none => none)
  | _, _, _, _ => none
end

/-! ### each statement -/
theorem _root_.L2.PS.weak {X : Cx} {e : Stmt} {t t' : TS} (h : PS X e t) (hq : ∀ D σ H, t' D σ H → t D σ H) : PS X e t' := ⟨fun pins s σ H D I q => h.run pins s σ H D I (hq D σ H q)⟩
theorem _root_.L2.PSs.weak {X : Cx} {e : List Stmt} {t t' : TS} (h : PSs X e t) (hq : ∀ D σ H, t' D σ H → t D σ H) : PSs X e t' := ⟨fun pins s σ H D I q => h.run pins s σ H D I (hq D σ H q)⟩
structure SxOk (X : Cx) (sc : Scope) : Prop where
  scope : X.env.scope = sc
  kind : sc.kind = .function
  pass : PassesOwn (model X.prog X.w) X.A X.env X.xe
  stk : X.stack = X.env :: X.outer ∧ X.env.frame = some X.env.locals ∧ X.ex = []
section
variable {X : Cx} {xa : Nat → Addr} {E : XK} {Γ : Cfg} {k : Nat} {sc : Scope} {Z : Stt} {C : CT} {own' lp : List Nat} {fr : Bool}
theorem set_nm {i : Nat} {f : Bool} {e : IE} {D : Ends} {σ : L2.St} {H : Hp} (hp : ∀ p ∈ Z.P, p.1 ≠ i) (ho : own' = if f = true then [i] ++ Z.own else Z.own.filter fun j => !decide (j ∈ [i])) (h : semS xa E Z C own' lp fr (.set (.nm i) f e) D σ H) : tAsg (semE xa (fun _ => E) Z C f e) (gName i) D σ H := by
  obtain ⟨S, env, R, fin⟩ := h
  unfold ex at fin
  refine ⟨S, env, R, (FinS.bind fin).post fun v H1 q => ?_⟩
  obtain ⟨S1, env1, d, _, R1, hs1, vx, f1⟩ := q
  split at f1
  · exact f1.elim
  · rename_i hf
    unfold bindT at f1
    simp only at f1
    split at f1
    · rename_i env2 hb
      split at hb
      · rename_i hl
        cases hb
        show D.nx (σ.set i (some v)) H1
        cases f with
        | false =>
          refine f1 _ _ _ (Rel.marks (Z := { Z with own := Z.own.filter (· ≠ i) }) (R1.store hl hp (vx_false vx)) fun j => ?_) (Sub.refl _)
          rw [ho]
          simp
        | true =>
          have hd : isL d = true := by cases q : isL d <;> simp_all
          refine f1 _ _ _ (Rel.marks (Z := { Z with own := i :: Z.own }) (R1.storeOwn hl hp (vx.1 rfl hd)) fun j => ?_) (Sub.refl _)
          rw [ho]
          simp
      · cases hb
    · exact f1.elim
theorem swTup {ts : List Expr} {a l : Nat} {b : Pos} {x : Expr} {env : PySem.Env} : swapsWithSole [.Tuple ts a b] x l env = pure false := by cases x <;> rfl
theorem s_set {t : IT} {f : Bool} {e : IE} {tg x : Expr} {p : Pos} {par : List Nat} (cx : CxOk X Z.W xa (fun _ => E) Γ k sc) (sx : SxOk X sc) (hP : ∀ p ∈ Z.P, p.1 ∈ par) (h1 : t.slots.all (fun i => !decide (i ∈ par)) = true) (h2 : itC Γ sc t tg = true) (h3 : corr Γ Z.own sc f e x = true) (h4 : setOk sc e t f tg x = true)
    (ho : own' = if f = true then t.slots ++ Z.own else Z.own.filter fun j => !decide (j ∈ t.slots)) : PS X (.Assign [tg] x p) (semS xa E Z (CF Γ.T k) own' lp fr (.set t f e)) := by
  have hsl : ∀ p ∈ Z.P, p.1 ∉ t.slots := fun p hp z => of_decide_eq_false (nf (List.all_eq_true.mp h1 _ z)) (hP p hp)
  have qe := (sE xa Γ k e cx h3).1
  cases t with
  | nm i =>
    have hp : ∀ p ∈ Z.P, p.1 ≠ i := fun p hp z => hsl p hp (by rw [z]; exact List.mem_singleton.mpr rfl)
    cases tg <;> first | (have h2 : false = true := h2; cases h2) | skip
    rename_i y py
    replace h4 : lcOk e x = true := h4
    replace h2 : (decide (Γ.N[i]? = some y) && locC sc y) = true := h2
    obtain ⟨h5, h6⟩ := ba h2
    have h5 := of_decide_eq_true h5
    cases hsw : swB sc y py x with
    | false =>
      refine PS.weak (ps_set (i := i) cx.nd (by rw [cx.N]; exact h5) (cx.loc y h6).1 qe ?_ (cx.loc y h6).2) fun D σ H h => set_nm hp ho h
      rw [swB_ok sx.scope sx.kind, hsw]
      cases x <;> first | rfl | (cases e <;> (have h4 : false = true := h4; cases h4))
    | true =>
      cases x <;> first | (have hsw : false = true := hsw; cases hsw) | (cases e <;> (have h4 : false = true := h4; cases h4)) | skip
      rename_i elt gs scope pl
      cases e <;> first | (have h4 : false = true := h4; cases h4) | skip
      rename_i vs tg2 it c e
      match gs, h3, hsw, qe with
      | [⟨t, iter, ifs, kk⟩], h3, hsw, qe =>
        unfold corr at h3
        obtain ⟨h, g10⟩ := ba h3
        obtain ⟨h, g9⟩ := ba h
        obtain ⟨h, g8⟩ := ba h
        obtain ⟨h, g7⟩ := ba h
        obtain ⟨h, g6⟩ := ba h
        obtain ⟨h, g5⟩ := ba h
        obtain ⟨h, g4⟩ := ba h
        obtain ⟨h, g3⟩ := ba h
        obtain ⟨g1, g2⟩ := ba h
        have e0 := of_decide_eq_true g1
        subst e0
        have hv : ∀ v ∈ vs, v ∉ Z.own := fun v hv => of_decide_eq_false (nf (List.all_eq_true.mp g2 v hv))
        have hs : ∀ i ∈ tg2.slots, i ∈ vs := fun i hi => of_decide_eq_true (List.all_eq_true.mp g8 i hi)
        have qi := sI xa Γ k it cx g5
        have qc := fun (s : Shared) (H : Hp) (A : Addr) (cl : List (Str × Addr)) (fp : List Addr) (Z' : Stt) (hW : Z'.W = Z.W) (ho : Z'.own = Z.own) => sC xa Γ k c (Z := Z') (sc := scope) (by rw [hW]; exact cx.blk s H A cl fp) (by rw [ho]; exact g9)
        have qe := fun (s : Shared) (H : Hp) (A : Addr) (cl : List (Str × Addr)) (fp : List Addr) (Z' : Stt) (hW : Z'.W = Z.W) (ho : Z'.own = Z.own) => (sE xa Γ k e (Z := Z') (sc := scope) (by rw [hW]; exact cx.blk s H A cl fp) (by rw [ho]; exact g10)).1
        have hyl : X.env.scope.names.lookup y = some .local := by
          unfold swB at hsw
          obtain ⟨hsw, _⟩ := ba hsw
          obtain ⟨hsw, _⟩ := ba hsw
          rw [sx.scope]
          exact eq_of_beq hsw
        have base := ps_setLc (i := i) (y := y) (py := py) (pos := pl) (spos := p) cx.calm cx.nd (by rw [cx.N]; exact h5) hyl (by rw [swB_ok sx.scope sx.kind rfl, hsw]) qi (blk_ok cx g3) (fun s H A cl fp => g_it (cx.blk s H A cl fp) g7) (fun s H A cl fp => ⟨fun pins s σ H Q I ⟨Z', hW, ho, q⟩ => (qc _ _ _ _ _ Z' hW ho).run pins s σ H Q I q⟩)
          (fun s H A cl fp => ⟨fun pins s σ H Q I ⟨Z', hW, ho, q⟩ => (qe _ _ _ _ _ Z' hW ho).run pins s σ H Q I q⟩) (fold_ok g6) (g := gIT X.K tg2) (tt := anyC Z.W Z.own xa (CF Γ.T k) c) (te := anyE Z.W Z.own xa (CF Γ.T k) e)
        rw [of_decide_eq_true g4] at base
        refine base.weak fun D σ H h => ?_
        exact e_lc (pos := pl) cx hv g3 (of_decide_eq_true g4) g6 hs g7 qi qc qe (set_nm hp ho h)
      | [], h3, _, _ => (have h3 : false = true := h3; cases h3)
      | ⟨_, _, _, _⟩ :: _ :: _, h3, _, _ => (have h3 : false = true := h3; cases h3)
  | tp is =>
    cases tg <;> first | (have h2 : false = true := h2; cases h2) | skip
    rename_i ts kt pt
    have hf : f = false := by
      cases f
      · rfl
      · cases x <;> (have h4 : false = true := h4; cases h4)
    subst hf
    refine PS.weak (ps_asg qe (g_it cx h2) swTup ?_) fun D σ H h => ?_
    · cases x <;> first | rfl | skip
      rename_i vs k2 p2
      have h4 : (match swS sc ts vs with
        | some none => true
        | _ => false) = true := h4
      split at h4
      · rename_i h5
        exact swS_ok sx.scope sx.kind h5
      · cases h4
    · obtain ⟨S, env, R, fin⟩ := h
      unfold ex at fin
      refine ⟨S, env, R, (FinS.bind fin).post fun v H1 q => ?_⟩
      obtain ⟨S1, env1, d, _, R1, hs1, vx, f1⟩ := q
      rw [if_neg (by simp)] at f1
      split at f1
      · rename_i env2 hb
        show gIT X.K (.tp is) v σ H1 D.nx
        rw [← cx.K]
        refine target_rel R1 hb hsl (vx_false vx) fun σ' own2 hown R2 _ => ?_
        refine f1 _ _ _ (Rel.marks (Z := { Z with own := own2 }) R2 fun j => ?_) (Sub.refl _)
        rw [ho, hown]
        simp
      · exact f1.elim
/-- two values stored at once -/
theorem par_eq {C : CT} {i j : Nat} {a b : IE} {env : Env} : ex C (.par i j a b) env = (evs C (.cons a (.cons b .nil)) env).sbind fun ds env2 => match ds with
    | [x, y] => if i < env2.length ∧ j < env2.length then .next ((env2.set i (some x)).set j (some y)) else .bad
    | _ => .bad := by
  unfold ex evs
  cases ev C a env with
  | ok x env1 =>
    simp only [Res.sbind_ok, Res.bind_ok]
    unfold evs
    cases ev C b env1 with
    | ok y env2 =>
      simp only [Res.sbind_ok, Res.bind_ok]
      unfold evs
      rfl
    | exc k d => rfl
    | bad => rfl
  | exc k d => rfl
  | bad => rfl
theorem par3_eq {C : CT} {i j l : Nat} {a b c : IE} {env : Env} : ex C (.par3 i j l a b c) env = (evs C (.cons a (.cons b (.cons c .nil))) env).sbind fun ds env3 => match ds with
    | [x, y, z] => if i < env3.length ∧ j < env3.length ∧ l < env3.length then .next (((env3.set i (some x)).set j (some y)).set l (some z)) else .bad
    | _ => .bad := by
  unfold ex evs
  cases ev C a env with
  | ok x env1 =>
    simp only [Res.sbind_ok, Res.bind_ok]
    unfold evs
    cases ev C b env1 with
    | ok y env2 =>
      simp only [Res.sbind_ok, Res.bind_ok]
      unfold evs
      cases ev C c env2 with
      | ok z env3 =>
        simp only [Res.sbind_ok, Res.bind_ok]
        unfold evs
        rfl
      | exc k d => rfl
      | bad => rfl
    | exc k d => rfl
    | bad => rfl
  | exc k d => rfl
  | bad => rfl
theorem reps_two {W : Wd} {S : Hp} {x y : D} {vs : List V} (r : Reps W S [x, y] vs) : ∃ v w, vs = [v, w] ∧ Rep W S x v ∧ Rep W S y w := by
  rw [reps_cons] at r
  obtain ⟨v, q, rfl, r1, r⟩ := r
  rw [reps_cons] at r
  obtain ⟨w, q, rfl, r2, r⟩ := r
  rw [reps_nil] at r
  subst r
  exact ⟨v, w, rfl, r1, r2⟩
theorem reps_three {W : Wd} {S : Hp} {x y z : D} {vs : List V} (r : Reps W S [x, y, z] vs) : ∃ u v w, vs = [u, v, w] ∧ Rep W S x u ∧ Rep W S y v ∧ Rep W S z w := by
  rw [reps_cons] at r
  obtain ⟨u, q, rfl, r1, r⟩ := r
  obtain ⟨v, w, rfl, r2, r3⟩ := reps_two r
  exact ⟨u, v, w, rfl, r1, r2, r3⟩
theorem lclC_ok {i : Nat} {x : Str} (cx : CxOk X Z.W xa (fun _ => E) Γ k sc) (sx : SxOk X sc) (h : lclC Γ sc i x = true) : X.N[i]? = some x ∧ X.env.scope.names.lookup x = some .local := by
  obtain ⟨h1, h2⟩ := ba h
  exact ⟨by rw [cx.N]; exact of_decide_eq_true h1, by rw [sx.scope]; exact eq_of_beq h2⟩
theorem swSole {ts : List Expr} {a l : Nat} {b : Pos} {vs : List Expr} {a2 : Nat} {b2 : Pos} {env : PySem.Env} : swapsWithSole [.Tuple ts a b] (.Tuple vs a2 b2) l env = pure false := rfl
theorem s_par {i j : Nat} {a b : IE} {x y : Str} {px py p1 p2 p : Pos} {k1 k2 : Nat} {ea eb : Expr} {par : List Nat} (cx : CxOk X Z.W xa (fun _ => E) Γ k sc) (sx : SxOk X sc) (hP : ∀ p ∈ Z.P, p.1 ∈ par) (hij : i ≠ j) (hi : i ∉ par) (hj : j ∉ par) (l1 : lclC Γ sc i x = true) (l2 : lclC Γ sc j y = true)
    (hc : corrs Γ Z.own sc (.cons a (.cons b .nil)) [ea, eb] = true) (hn : noOwn (IEs.cons a (.cons b .nil)).owns = true) (hsw : swS sc [.Name x px, .Name y py] [ea, eb] = some (some [x, y])) (ho : own' = (Z.own.filter (· ≠ i)).filter (· ≠ j)) :
    PS X (.Assign [.Tuple [.Name x px, .Name y py] k1 p1] (.Tuple [ea, eb] k2 p2) p) (semS xa E Z (CF Γ.T k) own' lp fr (.par i j a b)) := by
  obtain ⟨n1, n2⟩ := lclC_ok cx sx l1
  obtain ⟨n3, n4⟩ := lclC_ok cx sx l2
  refine PS.weak (ps_par (i := i) (j := j) cx.calm cx.nd n1 n3 hij n2 n4 (sA xa Γ k _ cx hc).1 (swS_ok sx.scope sx.kind hsw) swSole) fun D σ H h => ?_
  obtain ⟨S, env, R, fin⟩ := h
  rw [par_eq] at fin
  refine ⟨S, env, R, (FinS.bind fin).post fun vs H1 q => ?_⟩
  obtain ⟨S1, env1, ds, _, R1, hs1, va, f1⟩ := q
  have rs := va.none hn
  split at f1
  · rename_i d1 d2
    obtain ⟨v, w, rfl, r1, r2⟩ := reps_two rs
    refine ⟨v, w, rfl, ?_⟩
    split at f1
    · rename_i hl
      have Ra := R1.store hl.1 (fun p hp z => hi (z ▸ hP p hp)) r1
      have Rb := Rel.store (Z := { Z with own := Z.own.filter (· ≠ i) }) Ra (by rw [List.length_set]; exact hl.2) (fun p hp (z : p.1 = j) => hj (z ▸ hP p hp)) r2
      subst ho
      exact f1 _ _ _ Rb (Sub.refl _)
    · exact f1.elim
  · exact f1.elim
/-- as if the body began here -/
def Stt.at (Z : Stt) (S H : Hp) (σ : L2.St) (env : Env) : Stt := ⟨Z.W, Z.own, S, H, ownP Z.own σ env⟩
theorem enter_exc {σ : L2.St} {S H : Hp} {env : Env} {E : XK} {j : Nat} {d : D} (R : Rel Z σ S H env) (h : Exs Z.W xa E Z j d) : Exs Z.W xa E (Z.at S H σ env) j d := by
  intro v dx S' H' h1 h2 h3 h4 h5 h6 h7 h8 h9
  refine h v dx S' H' (R.s0.trans h1) h2 (fun b o e hb => h3 b o (R.fr b o e fun p hp z => hb (List.mem_map.mpr ⟨p, hp, z⟩)) fun hm => ?_) (fun b o e => ?_) h5 h6 h7 (R.h0 h8) h9
  · obtain ⟨q, hq, e2⟩ := List.mem_map.mp hm
    obtain ⟨q1, q2, q3⟩ := mem_ownP.mp hq
    obtain ⟨_, _, q4⟩ := R.ownSome q1 q2 q3
    have e2 : q.2 = b := e2
    rw [e2] at q4
    rcases q4 with q4 | ⟨r, hr, q4⟩
    · rw [q4] at e; cases e
    · exact hb (List.mem_map.mpr ⟨r, hr, q4⟩)
  · by_cases q : ∀ p ∈ Z.P, p.2 ≠ b
    · have z := h4 b o (R.fr b o e q)
      rw [z]; exact R.gr b o e
    · obtain ⟨p, hp, rfl⟩ : ∃ p ∈ Z.P, p.2 = b := Classical.byContradiction fun z => q fun p hp e => z ⟨p, hp, e⟩
      obtain ⟨a1, a2, a3⟩ := R.pa p hp
      obtain ⟨⟨ws, e2⟩, _⟩ := R.ownSome a1 a3 a2
      have z := h4 _ _ e2
      rw [z]; exact R.gr _ o e
/-- raise C(e) -/
theorem s_raise {kk : Nat} {e : IE} {x : Str} {y : Expr} {p1 p2 p3 : Pos} (cx : CxOk X Z.W xa (fun _ => E) Γ k sc) (hy : notStar y = true) (hg : glC sc x = true) (hn : okName x = true) (hk : Γ.xs[kk]? = some x) (hc : corr Γ Z.own sc false e y = true) :
    PS X (.Raise (some (.Call (.Name x p1) [y] [] p2)) none p3) (semS xa E Z (CF Γ.T k) own' lp fr (.raise kk e)) := by
  have T := cx.xs kk x hk
  obtain ⟨f, fd, T0⟩ := T.init
  have s1 : starEach [y] X.env = (false, eval y X.env) :: starEach [] X.env := notStar_each (env := fun X => X.env) hy
  have qe := (sE xa Γ k e cx hc).1
  have mono : ∀ (σ : L2.St) (H : Hp) (Q Q' : VK), (∀ b H', Q b H' → Q' b H') → semE xa (fun _ => E) Z (CF Γ.T k) false e σ H Q → semE xa (fun _ => E) Z (CF Γ.T k) false e σ H Q' := fun σ H Q Q' hq ⟨S, env, R, f⟩ => ⟨S, env, R, f.post hq⟩
  refine PS.weak (ps_raise (W := fun cls d _ H => E cls d H) cx.calm cx.tk (pmk_init T0 (cx.room.mono (by omega)) (cx.glo x hg) T.glo qe mono s1 (okName_dbg hn))) fun D σ H h => ?_
  obtain ⟨S, env, R, fin⟩ := h
  unfold ex at fin
  refine ⟨S, env, R, (FinS.bind fin).post fun v H1 q => ?_⟩
  obtain ⟨S1, env1, d, _, R1, hs1, vx, f1⟩ := q
  intro dx hdx
  have f1 : ExcOk Z.W xa E Z.S0 Z.H0 (Z.P.map (·.2)) kk d := f1
  refine f1 v dx S1 (upd H1 dx (.xd [("value", v)])) R1.s0 (R1.sub.trans (Sub.upd hdx)) (fun b o e hb => ?_) R1.gr (R1.sz.upd trivial) (vx_false vx) upd_same (R1.h0 hdx) ((cx.xo kk).mpr (List.getElem?_eq_some_iff.mp hk).1)
  have e1 := R1.fr b o e fun p hp z => hb (List.mem_map.mpr ⟨p, hp, z⟩)
  rw [upd_ne (ne_of_none e1 hdx)]
  exact e1
theorem CxOk.tr {W : Wd} {E : L2.St → XK} {pn : List (Addr × Obj)} {xe : Value → Shared → Prop} {w : WX} (cx : CxOk X W xa E Γ k sc) (tk : Takes (X.tr pn xe) w) : CxOk (X.tr pn xe) W xa (fun σ cls d H => w cls d σ H) Γ k sc :=
  ⟨cx.N, cx.nd, cx.calm, cx.vis, cx.loc, cx.cf, cx.glo, cx.K, cx.fns, cx.pl, cx.plc, cx.room, tk, cx.xc, cx.xo, cx.xs, cx.xk, cx.xb, cx.bl, cx.ci, cx.cs, cx.gd⟩
/-- an object that is nobody's own is shared -/
theorem Rel.share {σ : L2.St} {S H : Hp} {env : Env} {p : Addr} {o : HO} (R : Rel Z σ S H env) (ho : Z.own = []) (hd : H p = some o) (h0 : Z.H0 p = none) : Rel Z σ (upd S p o) H env := by
  have hs : Sub S (upd S p o) := fun b u e => by
    by_cases hb : b = p
    · subst hb
      rw [upd_same, ← hd]
      exact R.sub b u e
    · rw [upd_ne hb]; exact e
  refine ⟨fun b u e => ?_, R.s0.trans hs, R.fr, fun b u e => ?_, fun i d e => ?_, R.dj, R.pa, R.ln, R.sz⟩
  · by_cases hb : b = p
    · subst hb
      rw [upd_same] at e
      rw [← e]; exact hd
    · rw [upd_ne hb] at e; exact R.sub b u e
  · rw [upd_ne (ne_of_none e h0)]; exact R.gr b u e
  · obtain ⟨v, x1, x2, x3⟩ := R.sl i d e
    exact ⟨v, x1, fun z => (by rw [ho] at z; simp at z), fun z => (x3 z).mono hs⟩
/-- try: e / except W as n: m = n -/
theorem s_mark {i j : Nat} {e : IE} {x : Expr} {w n m : Str} {p1 p2 p3 p4 p5 p6 p7 : Pos} {par : List Nat} (cx : CxOk X Z.W xa (fun _ => E) Γ k sc) (sx : SxOk X sc) (hP : ∀ p ∈ Z.P, p.1 ∈ par) (hown : Z.own = []) (hij : i ≠ j) (l1 : lclC Γ sc i n = true) (l2 : lclC Γ sc j m = true) (hn : okName n = true)
    (hw : glC sc w = true) (hwn : okName w = true) (hb : Γ.xb = w) (hw0 : w ≠ "") (hc : corr Γ [] sc false e x = true) (hlc : notLc x = true) (ho : own' = []) :
    PS X (.Try [.Expr x p1] [.ExceptHandler (some (.Name w p2)) (some n) [.Assign [.Name m p3] (.Name n p4) p5] p6] [] [] p7) (semS xa E Z (CF Γ.T k) own' lp fr (.mark i j e)) := by
  obtain ⟨n1, n2⟩ := lclC_ok cx sx l1
  obtain ⟨n3, n4⟩ := lclC_ok cx sx l2
  obtain ⟨st1, st2, st3⟩ := sx.stk
  obtain ⟨c, hc1, hc2⟩ := cx.xb (by rw [hb]; exact hw0)
  rw [hb] at hc1
  have hn' := hn
  unfold okName at hn'
  rw [Bool.and_eq_true, Bool.and_eq_true] at hn'
  have base := ps_try_mark (X := X) (x := w) (n := n) (m := m) (c := .ref c) (i := i) (j := j) (np := p2) (pos := p7) (pos' := p6) (mp := p3) (np2 := p4) (ap := p5) (Wout := fun cls d _ H => E cls d H)
    (tb := fun W D σ H => ∃ Z' : Stt, Z'.W = Z.W ∧ Z'.own = [] ∧ semE xa (fun σ cls d H => W cls d σ H) Z' (CF Γ.T k) false e σ H (fun _ H1 => D.nx σ H1)) (body := [.Expr x p1]) st1 st2 st3 cx.nd n1 n2 n3 n4 hij (by simpa using hn'.1.1) (by simpa using hn'.1.2) ⟨cx.glo w hw, okName_dbg hwn, .inl hc1⟩ cx.tk ?_
  · refine base.weak fun D σ H h => ?_
    obtain ⟨S, env, R, fin⟩ := h
    have R0 := R.enter
    have hP0 : ownP Z.own σ env = [] := by rw [hown]; rfl
    refine ⟨Z.at S H σ env, rfl, hown, S, env, R0, ?_⟩
    unfold ex at fin
    cases he : ev (CF Γ.T k) e env with
    | bad => rw [he] at fin; exact fin.elim
    | ok d env1 =>
      rw [he] at fin
      intro b H' S' R' hs _
      have RL := R.leave rfl R' fun i hi => rfl
      exact fin σ H' S' (Rel.marks (Z := Z) RL fun i => by rw [ho, hown]) hs
    | exc kk d =>
      rw [he] at fin
      simp only at fin
      split at fin
      · rename_i hl
        intro v dx S' H' g1 g2 g3 g4 g5 g6 g7 g8 g9
        have g3' : ∀ b o, H b = some o → H' b = some o := fun b o e => g3 b o e (by show b ∉ (ownP Z.own σ env).map (·.2); rw [hP0]; simp)
        have g4' : ∀ b o, H b = some o → S' b = S b := g4
        have Ra : Rel Z σ S' H' env := R.up g1 g2 g3' g4' g5
        have Rb : Rel Z σ (upd S' dx (.xd [("value", v)])) H' env := Ra.share hown g7 (R.h0 g8)
        refine ⟨true, hc2 kk ((cx.xo kk).mp g9), fun _ => ⟨xa kk, dx, rfl, rfl, fun a na => ?_⟩, fun q => (by cases q)⟩
        have Rc := Rb.both (o := exV a (xa kk) dx) na trivial
        have nda : dx ≠ a := ne_of_none g7 na
        have hs : Sub S' (upd (upd S' dx (.xd [("value", v)])) a (exV a (xa kk) dx)) := by
          have q1 : Sub S' (upd S' dx (.xd [("value", v)])) := fun b u e => by
            by_cases hb : b = dx
            · subst hb
              have := g2 b u e
              rw [upd_same, ← g7]; exact this
            · rw [upd_ne hb]; exact e
          exact q1.trans (Sub.upd (Rb.sub.none na))
        have rep : Rep Z.W (upd (upd S' dx (.xd [("value", v)])) a (exV a (xa kk) dx)) (.exn kk d) (.ref a) := by
          refine rep_exn.mpr ⟨a, dx, v, rfl, ?_, ?_, g9, Rep.mono hs g6⟩
          · rw [cx.xc, upd_same]
          · rw [upd_ne nda, upd_same]
        have noP : ∀ p ∈ Z.P, False := fun p hp => by
          have := (R.pa p hp).1
          rw [hown] at this
          simp at this
        have Rd := Rc.store (i := j) hl.2 (fun p hp => (noP p hp).elim) rep
        have Re := Rel.wiped (vs := [i]) Rd (fun u hu hz => by simp [hown] at hz)
        have eσ : ((σ.set i (some (.ref a))).set j (some (.ref a))).set i none = wipe (σ.set j (some (.ref a))) [i] := by
          unfold wipe wipe
          rw [List.set_comm _ _ hij, List.set_set]
        rw [eσ]
        refine fin _ _ _ (Rel.marks (Z := { Z with own := Z.own.filter (· ≠ j) }) Re fun q => by rw [ho, hown]; simp) (g1.trans hs)
      · exact fin.elim
  · intro W pn xe tk ps
    refine pss_one ⟨fun pins s σ H D I ⟨Z', hW, hO, h⟩ => ?_⟩
    have q := (sE xa Γ k e (Z := Z') (by rw [hW]; exact cx.tr tk) (by rw [hO]; exact hc)).1
    refine PS.run (ps_expr q ?_) pins s σ H D I ?_
    · cases x <;> first | rfl | (have hlc : false = true := hlc; cases hlc)
    · exact h
/-- any state with these marks -/
def anyZ (W : Wd) (own : List Nat) (xa : Nat → Addr) (E : XK) (C : CT) (fr : Bool) (e : IE) : TE := fun σ H Q => ∃ Z' : Stt, Z'.W = W ∧ Z'.own = own ∧ semE xa (fun _ => E) Z' C fr e σ H Q
theorem any_pe {e : IE} {x : Expr} {f : Bool} {W : Wd} {own : List Nat} (cx : CxOk X W xa (fun _ => E) Γ k sc) (h : corr Γ own sc f e x = true) : PE X x (anyZ W own xa E (CF Γ.T k) f e) := ⟨fun pins s σ H Q I ⟨Z', hW, ho, q⟩ => (sE xa Γ k e (Z := Z') (by rw [hW]; exact cx) (by rw [ho]; exact h)).1.run pins s σ H Q I q⟩
/-- a new list stays one while something else is reckoned -/
theorem fresh_keep {σ : L2.St} {S S' H H' : Hp} {env env' : Env} {d : D} {v : V} (R : Rel Z σ S H env) (f : FreshV Z σ S H env d v) (R' : Rel (Z.at S H σ env) σ S' H' env') : FreshV Z σ S' H' env' d v := by
  obtain ⟨p, ds, vs, rfl, rfl, f1, f2, fr, f3, f4⟩ := f
  have hn : ∀ q ∈ ownP Z.own σ env, q.2 ≠ p := fun q hq e => by
    obtain ⟨q1, q2, q3⟩ := mem_ownP.mp hq
    exact f4 q.1 q1 q2 (by rw [← e]; exact q3)
  refine ⟨p, ds, vs, rfl, rfl, R'.fr p _ f1 hn, ?_, fr.mono R'.s0, f3, fun i hi he hs => ?_⟩
  · have := R'.gr p _ f1
    rw [this]; exact f2
  · obtain ⟨_, _, q⟩ := R'.ownSome (Z := Z.at S H σ env) hi he hs
    rcases q with q | ⟨r, hr, q⟩
    · have q : H p = none := q
      rw [f1] at q; cases q
    · exact hn r hr q
theorem parf_eq {C : CT} {i j : Nat} {fi fj : Bool} {a b : IE} {env : Env} : ex C (.parf i j fi fj a b) env = (ev C a env).sbind fun x env1 => (ev C b env1).sbind fun y env2 => if (fi && !isL x) || (fj && !isL y) then .bad else if i < env2.length ∧ j < env2.length then .next ((env2.set i (some x)).set j (some y)) else .bad := rfl
/-- stored: shared, or one's own -/
theorem store_any {σ : L2.St} {S H : Hp} {env : Env} {i : Nat} {f : Bool} {d : D} {v : V} (R : Rel Z σ S H env) (hl : i < env.length) (hp : ∀ p ∈ Z.P, p.1 ≠ i) (vx : Vx Z σ f S H env d v) (hf : f = true → isL d = true) :
    Rel { Z with own := (if f = true then [i] else []) ++ Z.own.filter (· ≠ i) } (σ.set i (some v)) S H (env.set i (some d)) := by
  cases f with
  | false => exact Rel.marks (Z := { Z with own := Z.own.filter (· ≠ i) }) (R.store hl hp (vx_false vx)) fun j => by simp
  | true =>
    refine Rel.marks (Z := { Z with own := i :: Z.own }) (R.storeOwn hl hp (vx.1 rfl (hf rfl))) fun j => ?_
    by_cases h : j = i <;> simp [h]
theorem s_parf {i j : Nat} {fi fj : Bool} {a b : IE} {x y : Str} {px py p1 p2 p : Pos} {k1 k2 : Nat} {ea eb : Expr} {par : List Nat} (cx : CxOk X Z.W xa (fun _ => E) Γ k sc) (sx : SxOk X sc) (hP : ∀ p ∈ Z.P, p.1 ∈ par) (hij : i ≠ j) (hi : i ∉ par) (hj : j ∉ par) (l1 : lclC Γ sc i x = true) (l2 : lclC Γ sc j y = true) (n1 : notStar ea = true) (n2 : notStar eb = true)
    (ha : corr Γ Z.own sc fi a ea = true) (hb : corr Γ Z.own sc fj b eb = true) (hsw : swS sc [.Name x px, .Name y py] [ea, eb] = some (some [x, y])) (ho : own' = (if fj = true then [j] else []) ++ ((if fi = true then [i] else []) ++ (Z.own.filter (· ≠ i)).filter (· ≠ j))) :
    PS X (.Assign [.Tuple [.Name x px, .Name y py] k1 p1] (.Tuple [ea, eb] k2 p2) p) (semS xa E Z (CF Γ.T k) own' lp fr (.parf i j fi fj a b)) := by
  obtain ⟨m1, m2⟩ := lclC_ok cx sx l1
  obtain ⟨m3, m4⟩ := lclC_ok cx sx l2
  have q1 : starEach [ea, eb] X.env = (false, eval ea X.env) :: starEach [eb] X.env := notStar_each (env := fun X => X.env) n1
  have q2 : starEach [eb] X.env = (false, eval eb X.env) :: starEach [] X.env := notStar_each (env := fun X => X.env) n2
  refine PS.weak (ps_par (i := i) (j := j) cx.calm cx.nd m1 m3 hij m2 m4 (pa_cons (sE xa Γ k a cx ha).1 (pa_cons (any_pe cx hb) pa_nil q2) q1) (swS_ok sx.scope sx.kind hsw) swSole) fun D σ H h => ?_
  obtain ⟨S, env, R, fin⟩ := h
  rw [parf_eq] at fin
  refine ⟨S, env, R, (FinS.bind fin).post fun v H1 q => ?_⟩
  obtain ⟨S1, env1, d1, _, R1, hs1, v1, f1⟩ := q
  have R1e : Rel (Z.at S1 H1 σ env1) σ S1 H1 env1 := R1.enter
  refine ⟨Z.at S1 H1 σ env1, rfl, rfl, S1, env1, R1e, ?_⟩
  cases he : ev (CF Γ.T k) b env1 with
  | bad => rw [he] at f1; exact f1.elim
  | exc jj d => rw [he] at f1; exact enter_exc (Z := Z) R1 f1
  | ok d2 env2 =>
    rw [he] at f1
    intro w H2 S2 R2 hs2 v2
    refine ⟨v, w, rfl, ?_⟩
    simp only [Res.sbind_ok] at f1
    split at f1
    · exact f1.elim
    · rename_i hL
      split at f1
      · rename_i hlen
        have R2z : Rel Z σ S2 H2 env2 := R1.leave rfl R2 fun _ _ => rfl
        have hfi : fi = true → isL d1 = true := fun e => by
          cases q : isL d1
          · exact absurd (by rw [e, q]; rfl) hL
          · rfl
        have hfj : fj = true → isL d2 = true := fun e => by
          cases q : isL d2
          · exact absurd (by rw [e, q, Bool.or_comm]; rfl) hL
          · rfl
        have w1 : Vx Z σ fi S2 H2 env2 d1 v := ⟨fun e1 e2 => fresh_keep R1 (v1.1 e1 e2) R2, fun e => (v1.2 e).mono hs2⟩
        have w2 : Vx Z σ fj S2 H2 env2 d2 w := by
          refine ⟨fun e1 e2 => ?_, v2.2⟩
          obtain ⟨p, ds, vs, z1, z2, z3, z4, z5, z6, z7⟩ := v2.1 e1 e2
          exact ⟨p, ds, vs, z1, z2, z3, z4, z5, R1.h0 z6, z7⟩
        have hpi : ∀ p ∈ Z.P, p.1 ≠ i := fun p hp (z : p.1 = i) => hi (z ▸ hP p hp)
        have hpj : ∀ p ∈ Z.P, p.1 ≠ j := fun p hp (z : p.1 = j) => hj (z ▸ hP p hp)
        have Ra := store_any R2z hlen.1 hpi w1 hfi
        have w3 : Vx { Z with own := (if fi = true then [i] else []) ++ Z.own.filter (· ≠ i) } (σ.set i (some v)) fj S2 H2 (env2.set i (some d1)) d2 w := by
          refine ⟨fun e1 e2 => ?_, w2.2⟩
          obtain ⟨p, ds, vs, z1, z2, z3, z4, z5, z6, z7⟩ := v2.1 e1 e2
          refine ⟨p, ds, vs, z1, z2, z3, z4, z5, R1.h0 z6, fun l hl he hs => ?_⟩
          by_cases hli : i = l
          · subst hli
            have hσ : i < σ.length := by rw [R2z.ln]; exact hlen.1
            rw [List.getElem?_set_self hσ] at hs
            cases hs
            cases hfe : fi with
            | false => rw [hfe] at hl; simp at hl
            | true =>
              obtain ⟨p', _, _, _, y2, y3, _⟩ := v1.1 hfe (hfi hfe)
              cases y2
              have z6 : H1 p = none := z6
              rw [y3] at z6; cases z6
          · rw [List.getElem?_set_ne hli] at hs
            rw [getE_set, if_neg (fun z => hli z.1)] at he
            have hl' : l ∈ Z.own := by
              rcases List.mem_append.mp hl with q | q
              · cases hfe : fi with
                | false => rw [hfe] at q; simp at q
                | true => rw [hfe] at q; simp at q; exact absurd q.symm hli
              · exact (List.mem_filter.mp q).1
            exact z7 l hl' he hs
        have Rb := store_any (Z := { Z with own := (if fi = true then [i] else []) ++ Z.own.filter (· ≠ i) }) Ra (by rw [List.length_set]; exact hlen.2) hpj w3 hfj
        refine f1 _ _ _ (Rel.marks (Z := { Z with own := (if fj = true then [j] else []) ++ ((if fi = true then [i] else []) ++ Z.own.filter (· ≠ i)).filter (· ≠ j) }) Rb fun l => ?_) hs2
        rw [ho]
        have mem : ∀ (A : List Nat) (n m : Nat), m ∈ A.filter (· ≠ n) ↔ m ∈ A ∧ m ≠ n := fun A n m => by simp
        have one : ∀ (f : Bool) (n m : Nat), m ∈ (if f = true then [n] else []) ↔ f = true ∧ m = n := fun f n m => by cases f <;> simp
        simp only [List.mem_append, mem, one]
        constructor
        · rintro (q | q | q)
          · exact .inl q
          · exact .inr ⟨.inl q, fun e => hij (q.2.symm.trans e)⟩
          · exact .inr ⟨.inr q.1, q.2⟩
        · rintro (q | ⟨q | q, e⟩)
          · exact .inl q
          · exact .inr (.inl q)
          · exact .inr (.inr ⟨q, e⟩)
      · exact f1.elim
theorem s_par3 {i j l : Nat} {a b c : IE} {x y z : Str} {px py pz p1 p2 p : Pos} {k1 k2 : Nat} {ea eb ec : Expr} {par : List Nat} (cx : CxOk X Z.W xa (fun _ => E) Γ k sc) (sx : SxOk X sc) (hP : ∀ p ∈ Z.P, p.1 ∈ par) (hij : i ≠ j) (hil : i ≠ l) (hjl : j ≠ l) (hi : i ∉ par) (hj : j ∉ par) (hl : l ∉ par) (l1 : lclC Γ sc i x = true) (l2 : lclC Γ sc j y = true) (l3 : lclC Γ sc l z = true)
    (hc : corrs Γ Z.own sc (.cons a (.cons b (.cons c .nil))) [ea, eb, ec] = true) (hn : noOwn (IEs.cons a (.cons b (.cons c .nil))).owns = true) (hsw : swS sc [.Name x px, .Name y py, .Name z pz] [ea, eb, ec] = some (some [x, y, z])) (ho : own' = ((Z.own.filter (· ≠ i)).filter (· ≠ j)).filter (· ≠ l)) :
    PS X (.Assign [.Tuple [.Name x px, .Name y py, .Name z pz] k1 p1] (.Tuple [ea, eb, ec] k2 p2) p) (semS xa E Z (CF Γ.T k) own' lp fr (.par3 i j l a b c)) := by
  obtain ⟨n1, n2⟩ := lclC_ok cx sx l1
  obtain ⟨n3, n4⟩ := lclC_ok cx sx l2
  obtain ⟨n5, n6⟩ := lclC_ok cx sx l3
  refine PS.weak (ps_par3 (i := i) (j := j) (l := l) cx.calm cx.nd n1 n3 n5 hij hil hjl n2 n4 n6 (sA xa Γ k _ cx hc).1 (swS_ok sx.scope sx.kind hsw) swSole) fun D σ H h => ?_
  obtain ⟨S, env, R, fin⟩ := h
  rw [par3_eq] at fin
  refine ⟨S, env, R, (FinS.bind fin).post fun vs H1 q => ?_⟩
  obtain ⟨S1, env1, ds, _, R1, hs1, va, f1⟩ := q
  have rs := va.none hn
  split at f1
  · rename_i d1 d2 d3
    obtain ⟨u, v, w, rfl, r1, r2, r3⟩ := reps_three rs
    refine ⟨u, v, w, rfl, ?_⟩
    split at f1
    · rename_i hl'
      have Ra := R1.store hl'.1 (fun p hp z => hi (z ▸ hP p hp)) r1
      have Rb := Rel.store (Z := { Z with own := Z.own.filter (· ≠ i) }) Ra (by rw [List.length_set]; exact hl'.2.1) (fun p hp (z : p.1 = j) => hj (z ▸ hP p hp)) r2
      have Rc := Rel.store (Z := { Z with own := (Z.own.filter (· ≠ i)).filter (· ≠ j) }) Rb (by rw [List.length_set, List.length_set]; exact hl'.2.2) (fun p hp (z : p.1 = l) => hl (z ▸ hP p hp)) r3
      subst ho
      exact f1 _ _ _ Rc (Sub.refl _)
    · exact f1.elim
  · exact f1.elim
theorem app_eq {C : CT} {i : Nat} {e : IE} {env : Env} : ex C (.app i e) env = match getE env i with
    | none => .bad
    | some _ => (evs C (.cons e .nil) env).sbind fun ds env1 => match ds with
      | [d] => (match getE env1 i with
        | some (.lst xs) => if xs.length < sizeLine then .next (env1.set i (some (.lst (xs ++ [d])))) else .bad
        | _ => .bad)
      | _ => .bad := by
  unfold ex
  cases getE env i with
  | none => rfl
  | some d0 =>
    simp only
    unfold evs
    cases ev C e env with
    | ok x env1 =>
      simp only [Res.sbind_ok, Res.bind_ok]
      unfold evs
      rfl
    | exc k d => rfl
    | bad => rfl
theorem s_app {i : Nat} {e : IE} {x n : Str} {xp ap cp p : Pos} {y : Expr} (cx : CxOk X Z.W xa (fun _ => E) Γ k sc) (sx : SxOk X sc) (h1 : n = "append") (hi : i ∈ Z.own) (hs : slotC Γ sc i x = true) (hc : corrs Γ Z.own sc (.cons e .nil) [y] = true) (hn : noOwn (IEs.cons e .nil).owns = true) (hl : (ap.endLine == cp.line) = true) (ho : own' = Z.own) :
    PS X (.Expr (.Call (.Attribute (.Name x xp) n ap) [y] [] cp) p) (semS xa E Z (CF Γ.T k) own' lp fr (.app i e)) := by
  subst h1
  subst ho
  have hst : notStar y = true := by
    unfold corrs at hc
    exact (ba (ba hc).1).1
  have hone : starEach [y] X.env = (false, eval y X.env) :: starEach [] X.env := notStar_each (env := fun X => X.env) hst
  refine PS.weak (ps_expr (pe_bm F.plainAttrs_list F.slot_list_append F.type_list_append mt_append (slot_own cx hs) (sA xa Γ k _ cx hc).1 rfl ?_ hl hone rfl)) fun D σ H h => ?_
  · rw [hone]; rfl
  · obtain ⟨S, env, R, fin⟩ := h
    rw [app_eq] at fin
    obtain ⟨d0, e0, fin⟩ : ∃ d, getE env i = some d ∧ FinS (Exs Z.W xa E Z) Z S Z.own lp fr ((evs (CF Γ.T k) (.cons e .nil) env).sbind fun ds env1 => match ds with
      | [d] => (match getE env1 i with
        | some (.lst xs) => if xs.length < sizeLine then .next (env1.set i (some (.lst (xs ++ [d])))) else .bad
        | _ => .bad)
      | _ => .bad) D := by
      cases e0 : getE env i with
      | some d => rw [e0] at fin; exact ⟨d, rfl, fin⟩
      | none => rw [e0] at fin; exact fin.elim
    obtain ⟨a, ds0, vs0, rfl, s1, hH, hS, _⟩ := R.owned hi e0
    refine ⟨.ref a, s1, .inl ⟨rfl, vs0, .inl (.inl hH)⟩, S, env, R, (FinS.bind fin).post fun vs H1 q => ?_⟩
    obtain ⟨S1, env1, ds, _, R1, hs1, va, f1⟩ := q
    have rs := va.none hn
    split at f1
    · rename_i d
      rw [reps_cons] at rs
      obtain ⟨v, q, rfl, r1, rs⟩ := rs
      rw [reps_nil] at rs
      subst rs
      split at f1
      · rename_i xs e1
        split at f1
        · rename_i hlen
          obtain ⟨b, ds1, vs1, e2, s2, hH1, hS1, rs1, _⟩ := R1.owned hi e1
          cases e2
          rw [s1] at s2
          cases s2
          have hvl : vs1.length < sizeLine := by rw [← rs1.length]; exact hlen
          refine ⟨a, vs1, v, rfl, rfl, hH1, hvl, ?_⟩
          refine f1 _ _ _ (R1.mut hi (by rw [e1]; exact fun q => by cases q) s1 (rs1.append (reps_cons.mpr ⟨v, [], rfl, r1, reps_nil.mpr rfl⟩)) (by rw [List.length_append]; exact hvl)) (Sub.refl _)
        · exact f1.elim
      · exact f1.elim
    · exact f1.elim
theorem s_seti {i : Nat} {e1 e2 : IE} {x : Str} {xp sp p : Pos} {ie ve : Expr} (cx : CxOk X Z.W xa (fun _ => E) Γ k sc) (hi : i ∈ Z.own) (hs : slotC Γ sc i x = true) (h1 : corr Γ Z.own sc false e1 ie = true) (h2 : corr Γ Z.own sc false e2 ve = true) (hpl : plainIx ie = true) (ho : own' = Z.own) :
    PS X (.Assign [.Subscript (.Name x xp) ie sp] ve p) (semS xa E Z (CF Γ.T k) own' lp fr (.seti i e1 e2)) := by
  subst ho
  refine PS.weak (ps_asg (sE xa Γ k e2 cx h2).1 (pg_sub (slot_own cx hs) (sE xa Γ k e1 cx h1).1 set_list ?_) ?_ rfl) fun D σ H h => ?_
  · intro v
    cases ie <;> first | rfl | (have hpl : false = true := hpl; cases hpl)
  · cases ve <;> rfl
  · obtain ⟨S, env, R, fin⟩ := h
    unfold ex at fin
    refine ⟨S, env, R, (FinS.bind fin).post fun v H1 q => ?_⟩
    obtain ⟨S1, env1, d, _, R1, hs1, vx, f1⟩ := q
    split at f1
    · exact f1.elim
    · rename_i d0 e0
      obtain ⟨a, ds0, vs0, rfl, s1, hH, hS, _⟩ := R1.owned hi e0
      refine ⟨.ref a, s1, S1, env1, R1, (FinS.bind f1).post fun w H2 q => ?_⟩
      obtain ⟨S2, env2, dk, he, R2, hs2, wx, f2⟩ := q
      clear he
      split at f2
      · rename_i xs z e3
        split at f2
        · rename_i j hj
          obtain ⟨b, ds1, vs1, e4, s2, hH1, hS1, rs1, _⟩ := R2.owned hi e3
          cases e4
          rw [s1] at s2
          cases s2
          have hw := vx_false wx
          rw [rep_int] at hw
          subst hw
          refine ⟨a, vs1, z, j, rfl, rfl, hH1, by rw [← rs1.length]; exact hj, ?_⟩
          refine f2 _ _ _ (R2.mut hi (by rw [e3]; exact fun q => by cases q) s1 (rs1.set j ((vx_false vx).mono hs2)) (by rw [List.length_set]; exact R2.sz _ _ hH1)) (Sub.refl _)
        · exact f2.elim
      · exact f2.elim
theorem s_expr {e : IE} {x : Expr} {p : Pos} (cx : CxOk X Z.W xa (fun _ => E) Γ k sc) (h : corr Γ Z.own sc false e x = true) (hn : notLc x = true) (ho : own' = Z.own) : PS X (.Expr x p) (semS xa E Z (CF Γ.T k) own' lp fr (.expr e)) := by
  subst ho
  refine PS.weak (ps_expr (sE xa Γ k e cx h).1 ?_) fun D σ H h => ?_
  · cases x <;> first | rfl | (have hn : false = true := hn; cases hn)
  · obtain ⟨S, env, R, fin⟩ := h
    unfold ex at fin
    refine ⟨S, env, R, (FinS.bind fin).post fun v H1 q => ?_⟩
    obtain ⟨S1, env1, d, _, R1, hs1, vx, f1⟩ := q
    exact f1 _ _ _ R1 (Sub.refl _)
theorem retV_of {σ : L2.St} {S H : Hp} {env : Env} {d : D} {v : V} (vx : Vx Z σ fr S H env d v) (hd : fr = true → isL d = true) : RetV Z fr S H d v := by
  refine ⟨fun hf => ?_, fun hf => vx.2 fun q => by rw [hf] at q; cases q⟩
  obtain ⟨p, es, ws, h1, h2, h3, h4, h5, h6, _⟩ := vx.1 hf (hd hf)
  exact ⟨p, es, ws, h1, h2, h3, h4, h5, h6⟩
theorem s_ret {e : IE} {x : Expr} {p : Pos} (cx : CxOk X Z.W xa (fun _ => E) Γ k sc) (h : corr Γ Z.own sc fr e x = true) : PS X (.Return (some x) p) (semS xa E Z (CF Γ.T k) own' lp fr (.ret e)) := by
  refine PS.weak (ps_ret (sE xa Γ k e cx h).1) fun D σ H h => ?_
  obtain ⟨S, env, R, fin⟩ := h
  unfold ex at fin
  refine ⟨S, env, R, (FinS.bind fin).post fun v H1 q => ?_⟩
  obtain ⟨S1, env1, d, _, R1, hs1, vx, f1⟩ := q
  exact f1.2 _ v σ H1 S1 R1 (Sub.refl _) (retV_of vx f1.1)
theorem s_retOwn {i : Nat} {x : Str} {xp p : Pos} {par : List Nat} (cx : CxOk X Z.W xa (fun _ => E) Γ k sc) (hP : ∀ p ∈ Z.P, p.1 ∈ par) (hi : i ∈ Z.own) (hp : i ∉ par) (hs : slotC Γ sc i x = true) (hf : fr = true) : PS X (.Return (some (.Name x xp)) p) (semS xa E Z (CF Γ.T k) own' lp fr (.retOwn i)) := by
  subst hf
  refine PS.weak (ps_ret (slot_own cx hs)) fun D σ H h => ?_
  obtain ⟨S, env, R, fin⟩ := h
  unfold ex at fin
  split at fin
  · rename_i d e0
    obtain ⟨a, ds, vs, rfl, s1, hH, hS, rs, h0⟩ := R.owned hi e0
    refine ⟨.ref a, s1, fin.2 _ _ σ H S R (Sub.refl _) ⟨fun _ => ⟨a, ds, vs, rfl, rfl, hH, hS, rs, ?_⟩, fun q => by cases q⟩⟩
    rcases h0 with h0 | ⟨q, hq, rfl⟩
    · exact h0
    · obtain ⟨y1, y2, y3⟩ := R.pa q hq
      have := R.dj q.1 i q.2 y1 hi y3 (by rw [e0]; exact fun q => by cases q) y2 s1
      exact absurd (this ▸ hP q hq) hp
  · exact fin.elim
theorem s_pass {p : Pos} (ho : own' = Z.own) : PS X (.Pass p) (semS xa E Z C own' lp fr .pass) := by
  subst ho
  refine PS.weak ps_pass fun D σ H h => ?_
  obtain ⟨S, env, R, fin⟩ := h
  unfold ex at fin
  exact fin _ _ _ R (Sub.refl _)
theorem s_brk {p : Pos} (h : sameM lp Z.own = true) : PS X (.Break p) (semS xa E Z C own' lp fr .brk) := by
  refine PS.weak ps_break fun D σ H h' => ?_
  obtain ⟨S, env, R, fin⟩ := h'
  unfold ex at fin
  exact fin _ _ _ (R.marks (sameM_ok h)) (Sub.refl _)
theorem s_cnt {p : Pos} (h : sameM lp Z.own = true) : PS X (.Continue p) (semS xa E Z C own' lp fr .cnt) := by
  refine PS.weak ps_continue fun D σ H h' => ?_
  obtain ⟨S, env, R, fin⟩ := h'
  unfold ex at fin
  exact fin _ _ _ (R.marks (sameM_ok h)) (Sub.refl _)
theorem s_never {st : Stmt} : PS X st (semS xa E Z C own' lp fr .never) := PS.weak ps_never fun D σ H h => by
  obtain ⟨S, env, R, fin⟩ := h
  unfold ex at fin
  exact fin.elim
theorem s_if {c : IE} {a b : ISs} {t : Expr} {x y : List Stmt} {p : Pos} {o1 o2 : List Nat} (cx : CxOk X Z.W xa (fun _ => E) Γ k sc) (hc : corr Γ Z.own sc false c t = true) (ha : PSs X x (semSs xa E Z (CF Γ.T k) o1 lp fr a)) (hb : PSs X y (semSs xa E Z (CF Γ.T k) o2 lp fr b))
    (h1 : stopss a = true ∨ ∀ i, i ∈ o1 ↔ i ∈ own') (h2 : stopss b = true ∨ ∀ i, i ∈ o2 ↔ i ∈ own') : PS X (.If t x y p) (semS xa E Z (CF Γ.T k) own' lp fr (.ifs c a b)) := by
  refine PS.weak (ps_if ((sE xa Γ k c cx hc).2 rfl) ha hb) fun D σ H h => ?_
  obtain ⟨S, env, R, fin⟩ := h
  unfold ex at fin
  refine ⟨S, env, R, (FinS.bind fin).post fun v H1 q => ?_⟩
  obtain ⟨S1, env1, d, _, R1, hs1, vx, f1⟩ := q
  have vx : d = v := vx
  subst vx
  cases d with
  | true =>
    rw [if_pos rfl]
    exact ⟨S1, env1, R1, f1.marks (h1.imp (fun h env' => stopss_ok _ a h _ env') fun h => h)⟩
  | false =>
    rw [if_neg (by simp)]
    exact ⟨S1, env1, R1, f1.marks (h2.imp (fun h env' => stopss_ok _ b h _ env') fun h => h)⟩
theorem s_whl {c : IE} {a : ISs} {t : Expr} {body : List Stmt} {p : Pos} {o1 : List Nat} (cx : CxOk X Z.W xa (fun _ => E) Γ k sc) (sx : SxOk X sc) (hc : corr Γ Z.own sc false c t = true) (hb : PSs X body (semSs xa E Z (CF Γ.T k) o1 Z.own fr a))
    (h1 : stopss a = true ∨ ∀ i, i ∈ Z.own ↔ i ∈ o1) (ho : own' = Z.own) : PS X (.While t body [] p) (semS xa E Z (CF Γ.T k) own' lp fr (.whl c a)) := by
  subst ho
  refine PS.weak (ps_while sx.pass ((sE xa Γ k c cx hc).2 rfl) hb) fun D σ H h => ?_
  obtain ⟨S, env, R, fin⟩ := h
  unfold ex at fin
  by_cases hw : ∃ n r, whN (evb (CF Γ.T k) c) (exs (CF Γ.T k) a) n env = some r
  · obtain ⟨n, r, hw⟩ := hw
    rw [whD_of hw] at fin
    refine ⟨fun m σ H => ∃ S2 env2, Sub S S2 ∧ Rel Z σ S2 H env2 ∧ whN (evb (CF Γ.T k) c) (exs (CF Γ.T k) a) m env2 = some r, ⟨n, S, env, Sub.refl _, R, hw⟩, ?_⟩
    rintro m σ1 H1 ⟨S2, env2, hs2, R2, hm⟩
    cases m with
    | zero => unfold whN at hm; cases hm
    | succ m =>
      unfold whN at hm
      refine ⟨S2, env2, R2, ?_⟩
      show Fin (Exs Z.W xa E Z) Z σ1 S2 (Vb Z) (evb (CF Γ.T k) c env2) _
      cases hcc : evb (CF Γ.T k) c env2 with
      | bad => rw [hcc] at hm; cases hm; exact fin.elim
      | exc j d => rw [hcc] at hm; cases hm; exact fin
      | ok tt env3 =>
        rw [hcc] at hm
        intro b H3 S3 R3 hs3 hbb
        have hbb : tt = b := hbb
        subst hbb
        cases tt with
        | false =>
          simp only at hm
          cases hm
          rw [if_neg (by simp)]
          exact fin _ _ _ R3 (hs2.trans hs3)
        | true =>
          simp only at hm
          rw [if_pos rfl]
          refine ⟨fun σ H => ∃ S2 env2, Sub S S2 ∧ Rel Z σ S2 H env2 ∧ whN (evb (CF Γ.T k) c) (exs (CF Γ.T k) a) m env2 = some r, fun σ' H' hN => ⟨m, Nat.lt_succ_self m, hN⟩, S3, env3, R3, ?_⟩
          refine FinS.marks (own2 := Z.own) ?_ (h1.imp (fun h env' => stopss_ok _ a h _ env') fun h i => (h i).symm)
          cases hbd : exs (CF Γ.T k) a env3 with
          | next env4 => rw [hbd] at hm; exact fun σ' H' S' R' hs' => ⟨S', env4, hs2.trans (hs3.trans hs'), R', hm⟩
          | cnt env4 => rw [hbd] at hm; exact fun σ' H' S' R' hs' => ⟨S', env4, hs2.trans (hs3.trans hs'), R', hm⟩
          | brk env4 => rw [hbd] at hm; cases hm; exact fun σ' H' S' R' hs' => fin _ _ _ R' (hs2.trans (hs3.trans hs'))
          | ret d env4 => rw [hbd] at hm; cases hm; exact FinS.mono (r := .ret d env4) (D := D) fin (hs2.trans hs3)
          | exc j d => rw [hbd] at hm; cases hm; exact fin
          | bad => rw [hbd] at hm; cases hm; exact fin.elim
  · rw [whD_bad hw] at fin
    exact fin.elim
theorem s_for {t : IT} {it : II} {a : ISs} {tg x : Expr} {body : List Stmt} {p : Pos} {o1 par : List Nat} (cx : CxOk X Z.W xa (fun _ => E) Γ k sc) (sx : SxOk X sc) (hP : ∀ p ∈ Z.P, p.1 ∈ par) (hsl : t.slots.all (fun i => !decide (i ∈ par) && !decide (i ∈ Z.own)) = true) (ht : itC Γ sc t tg = true) (hi : corri Γ Z.own sc it tg x = true) (hn : notSet x = true)
    (hb : PSs X body (semSs xa E Z (CF Γ.T k) o1 Z.own fr a)) (h1 : stopss a = true ∨ ∀ i, i ∈ Z.own ↔ i ∈ o1) (ho : own' = Z.own) : PS X (.For tg x body [] p) (semS xa E Z (CF Γ.T k) own' lp fr (.for_ t it a)) := by
  subst ho
  have hsp : ∀ i ∈ t.slots, i ∉ par ∧ i ∉ Z.own := fun i hi => by
    obtain ⟨q1, q2⟩ := ba (List.all_eq_true.mp hsl i hi)
    exact ⟨of_decide_eq_false (nf q1), of_decide_eq_false (nf q2)⟩
  refine PS.weak (ps_for sx.pass cx.calm (sI xa Γ k it cx hi) (g_it cx ht) hb (fold_ok hn)) fun D σ H h => ?_
  obtain ⟨S, env, R, fin⟩ := h
  unfold ex at fin
  refine ⟨S, env, R, (FinS.bind fin).post fun J H1 q => ?_⟩
  obtain ⟨S1, env1, ds, _, R1, hs1, wk, f1⟩ := q
  have wk : Walk Z.W S1 J ds := wk
  obtain ⟨r, hr⟩ : ∃ r, forD t (exs (CF Γ.T k) a) ds env1 = r := ⟨_, rfl⟩
  rw [hr] at f1
  refine ⟨fun i m σ H => m = ds.length - i ∧ i ≤ ds.length ∧ ∃ S2 env2, Sub S1 S2 ∧ Rel Z σ S2 H env2 ∧ forD t (exs (CF Γ.T k) a) (ds.drop i) env2 = r, ⟨ds.length, by simp, Nat.zero_le _, S1, env1, Sub.refl _, R1, by rw [List.drop_zero]; exact hr⟩, ?_⟩
  rintro i m σ2 H2 ⟨rfl, hle, S2, env2, hs2, R2, hrec⟩
  rw [← hrec] at f1
  by_cases hlt : i < ds.length
  · right
    refine ⟨wk.go i H2 (hs2.trans R2.sub) hlt, fun σ' H' => i + 1 ≤ ds.length ∧ ∃ S2 env2, Sub S1 S2 ∧ Rel Z σ' S2 H' env2 ∧ forD t (exs (CF Γ.T k) a) (ds.drop (i + 1)) env2 = r, fun σ' H' hN => ⟨ds.length - (i + 1), by omega, rfl, hN⟩, fun v H' y => ?_⟩
    have hx : ds[i]? = some ds[i] := List.getElem?_eq_getElem hlt
    have hdrop : ds.drop i = ds[i] :: ds.drop (i + 1) := List.drop_eq_getElem_cons hlt
    rw [hdrop] at f1 hrec
    unfold forD at f1 hrec
    have hitem : ∃ S3, Sub S2 S3 ∧ Rel Z σ2 S3 H' env2 ∧ Rep Z.W S3 ds[i] v := by
      rcases wk.yld i H2 v H' ds[i] (hs2.trans R2.sub) y hx with ⟨rfl, rx⟩ | ⟨p, es, ws, hp, rfl, rfl, e2, rs, hlen⟩
      · exact ⟨S2, Sub.refl _, R2, rx.mono hs2⟩
      · have hs := Sub.upd (o := .tup ws) (R2.sub.none hp)
        refine ⟨_, hs, R2.both hp (Nat.le_trans hlen (by decide)), ?_⟩
        rw [e2]
        exact rep_tup.mpr ⟨p, ws, rfl, upd_same, (rs.mono hs2).mono hs⟩
    obtain ⟨S3, hs3, R3, rx⟩ := hitem
    cases hbind : bindT t ds[i] env2 with
    | none => rw [hbind] at f1; exact f1.elim
    | some env3 =>
      rw [hbind] at f1 hrec
      simp only at f1 hrec
      rw [← cx.K]
      refine target_rel R3 hbind (fun p hp z => (hsp _ z).1 (hP p hp)) rx fun σ3 own3 hown R4 _ => ?_
      have R4 : Rel Z σ3 S3 H' env3 := Rel.marks (Z := { Z with own := own3 }) R4 fun j => by
        rw [hown]
        exact ⟨fun z => ⟨z, fun w => (hsp _ w).2 z⟩, fun z => z.1⟩
      refine ⟨S3, env3, R4, ?_⟩
      have f1 := FinS.mono f1 (hs2.trans hs3)
      refine FinS.marks (own2 := Z.own) ?_ (h1.imp (fun h env' => stopss_ok _ a h _ env') fun h i => (h i).symm)
      cases hbd : exs (CF Γ.T k) a env3 with
      | next env4 => rw [hbd] at hrec; exact fun σ' H' S' R' hs' => ⟨hlt, S', env4, hs2.trans (hs3.trans hs'), R', hrec⟩
      | cnt env4 => rw [hbd] at hrec; exact fun σ' H' S' R' hs' => ⟨hlt, S', env4, hs2.trans (hs3.trans hs'), R', hrec⟩
      | brk env4 => rw [hbd] at f1; exact fun σ' H' S' R' hs' => f1 _ _ _ R' hs'
      | ret d env4 => rw [hbd] at f1; exact f1
      | exc j d => rw [hbd] at f1; exact f1
      | bad => rw [hbd] at f1; exact f1
  · left
    have hi' : ds.length ≤ i := by omega
    refine ⟨wk.stop i H2 (hs2.trans R2.sub) hi', ?_⟩
    have hnil : ds.drop i = [] := List.drop_eq_nil_of_le hi'
    rw [hnil] at f1
    unfold forD at f1
    exact f1 _ _ _ R2 hs2
end
end VI
/-! VIk: a block that makes a list of lists of its own. -/
namespace VI
open PySem PySem.Spec PyProof.Rows L2

/-- slot i holds a list (at f) of lists (at rs) that nobody else sees -/
structure DeepL (Z : Stt) (i : Nat) (σ : L2.St) (S H : Hp) (env : Env) (cs : List (List D)) (f : Addr) (rs : List Addr) : Prop where
  sl : σ[i]? = some (some (.ref f))
  top : H f = some (.lst (rs.map V.ref))
  kid : ∀ (j : Nat) (ds : List D), cs[j]? = some ds → ∃ a vs, rs[j]? = some a ∧ H a = some (.lst vs) ∧ Reps Z.W S ds vs
  len : cs.length = rs.length
  nd : (f :: rs).Nodup
  no : ∀ a ∈ f :: rs, S a = none ∧ Z.H0 a = none
  ap : ∀ a ∈ f :: rs, ∀ j ∈ Z.own, getE env j ≠ none → σ[j]? ≠ some (some (.ref a))
/-- the frame holds these objects too -/
def Stt.hold (Z : Stt) (H : Hp) (l : List Addr) : Stt := { Z with H0 := fun b => if b ∈ l then H b else Z.H0 b }
section
variable {Z : Stt} {i : Nat} {σ : L2.St} {S S' H H' : Hp} {env env' : Env} {cs : List (List D)} {f : Addr} {rs : List Addr}
theorem DeepL.there (d : DeepL Z i σ S H env cs f rs) : ∀ a ∈ f :: rs, ∃ vs, H a = some (.lst vs) := fun a ha => by
  rcases List.mem_cons.mp ha with rfl | ha
  · exact ⟨_, d.top⟩
  · obtain ⟨j, hj⟩ := List.getElem?_of_mem ha
    have hl : j < rs.length := (List.getElem?_eq_some_iff.mp hj).1
    obtain ⟨b, vs, h1, h2, _⟩ := d.kid j _ (List.getElem?_eq_getElem (by rw [d.len]; exact hl))
    rw [hj] at h1
    cases h1
    exact ⟨vs, h2⟩
theorem DeepL.npar (R : Rel Z σ S H env) (d : DeepL Z i σ S H env cs f rs) : ∀ a ∈ f :: rs, ∀ p ∈ Z.P, p.2 ≠ a := fun a ha p hp e => by
  obtain ⟨h1, h2, h3⟩ := R.pa p hp
  rw [e] at h2
  exact d.ap a ha p.1 h1 h3 h2
theorem hold_in {l : List Addr} {b : Addr} (h : b ∈ l) : (Z.hold H l).H0 b = H b := by
  show (if b ∈ l then H b else Z.H0 b) = _
  rw [if_pos h]
theorem hold_out {l : List Addr} {b : Addr} (h : b ∉ l) : (Z.hold H l).H0 b = Z.H0 b := by
  show (if b ∈ l then H b else Z.H0 b) = _
  rw [if_neg h]
theorem relx_in (R : Rel Z σ S H env) (d : DeepL Z i σ S H env cs f rs) : Rel (Z.hold H (f :: rs)) σ S H env where
  sub := R.sub
  s0 := R.s0
  fr := fun b o e q => by
    by_cases hb : b ∈ f :: rs
    · rw [hold_in hb] at e; exact e
    · rw [hold_out hb] at e; exact R.fr b o e q
  gr := fun b o e => by
    by_cases hb : b ∈ f :: rs
    · show S b = Z.S0 b
      rw [(d.no b hb).1]
      cases q : Z.S0 b with
      | none => rfl
      | some u =>
        have := R.s0 b u q
        rw [(d.no b hb).1] at this
        cases this
    · rw [hold_out hb] at e; exact R.gr b o e
  sl := fun j u e => by
    obtain ⟨v, h1, h2, h3⟩ := R.sl j u e
    refine ⟨v, h1, fun z => ?_, h3⟩
    obtain ⟨a, ds, vs, rfl, rfl, x3, x4, x5, x6⟩ := h2 z
    refine ⟨a, ds, vs, rfl, rfl, x3, x4, x5, ?_⟩
    have hn : a ∉ f :: rs := fun hm => d.ap a hm j z (by rw [e]; exact fun q => by cases q) h1
    rcases x6 with x6 | x6
    · exact .inl (by rw [hold_out hn]; exact x6)
    · exact .inr x6
  dj := R.dj
  pa := R.pa
  ln := R.ln
  sz := R.sz
/-- back: the objects are as they were -/
theorem relx_out {σ' : L2.St} (R : Rel Z σ S H env) (d : DeepL Z i σ S H env cs f rs) (R' : Rel (Z.hold H (f :: rs)) σ' S' H' env') : Rel Z σ' S' H' env' ∧ (∀ a ∈ f :: rs, H' a = H a ∧ S' a = none) ∧ ∀ a ∈ f :: rs, ∀ j ∈ Z.own, getE env' j ≠ none → σ'[j]? ≠ some (some (.ref a)) := by
  have key : ∀ b o, Z.H0 b = some o → (Z.hold H (f :: rs)).H0 b = some o := fun b o e => by
    have hn : b ∉ f :: rs := fun hm => by
      rw [(d.no b hm).2] at e; cases e
    rw [hold_out hn]; exact e
  have up : ∀ a ∈ f :: rs, ∃ o, (Z.hold H (f :: rs)).H0 a = some o := fun a ha => by
    obtain ⟨vs, e⟩ := d.there a ha
    exact ⟨_, by rw [hold_in ha]; exact e⟩
  refine ⟨⟨R'.sub, R'.s0, fun b o e q => R'.fr b o (key b o e) q, fun b o e => R'.gr b o (key b o e), fun j u e => ?_, R'.dj, R'.pa, R'.ln, R'.sz⟩, fun a ha => ?_, fun a ha j hj he hs => ?_⟩
  · obtain ⟨v, h1, h2, h3⟩ := R'.sl j u e
    refine ⟨v, h1, fun z => ?_, h3⟩
    obtain ⟨a, ds, vs, rfl, rfl, x3, x4, x5, x6⟩ := h2 z
    refine ⟨a, ds, vs, rfl, rfl, x3, x4, x5, ?_⟩
    rcases x6 with x6 | x6
    · left
      cases q : Z.H0 a with
      | none => rfl
      | some o => rw [key a o q] at x6; cases x6
    · exact .inr x6
  · obtain ⟨o, e⟩ := up a ha
    have e1 := R'.fr a o e fun p hp => d.npar R a ha p hp
    have e2 := R'.gr a o e
    refine ⟨by rw [e1, ← e, hold_in ha], ?_⟩
    rw [e2]
    show Z.S0 a = none
    cases q : Z.S0 a with
    | none => rfl
    | some u =>
      have := R.s0 a u q
      rw [(d.no a ha).1] at this
      cases this
  · obtain ⟨_, _, x⟩ := R'.ownSome (Z := Z.hold H (f :: rs)) hj he hs
    obtain ⟨o, e⟩ := up a ha
    rcases x with x | ⟨p, hp, x⟩
    · rw [e] at x; cases x
    · exact d.npar R a ha p hp x
/-- the block's list behind what only reckons -/
theorem DeepL.keep {σ' : L2.St} (d : DeepL Z i σ S H env cs f rs) (hs : Sub S S') (hσ : σ'[i]? = σ[i]?) (h1 : ∀ a ∈ f :: rs, H' a = H a ∧ S' a = none) (h2 : ∀ a ∈ f :: rs, ∀ j ∈ Z.own, getE env' j ≠ none → σ'[j]? ≠ some (some (.ref a))) : DeepL Z i σ' S' H' env' cs f rs where
  sl := by rw [hσ]; exact d.sl
  top := by rw [(h1 f (List.mem_cons_self ..)).1]; exact d.top
  kid := fun j ds e => by
    obtain ⟨a, vs, e1, e2, e3⟩ := d.kid j ds e
    exact ⟨a, vs, e1, by rw [(h1 a (List.mem_cons_of_mem _ (List.mem_of_getElem? e1))).1]; exact e2, e3.mono hs⟩
  len := d.len
  nd := d.nd
  no := fun a ha => ⟨(h1 a ha).2, (d.no a ha).2⟩
  ap := h2
theorem exs_hold {xa : Nat → Addr} {E : XK} {k : Nat} {u : D} (d : DeepL Z i σ S H env cs f rs) (h : Exs Z.W xa E Z k u) : Exs Z.W xa E (Z.hold H (f :: rs)) k u := by
  have key : ∀ b o, Z.H0 b = some o → (Z.hold H (f :: rs)).H0 b = some o := fun b o e => by
    have hn : b ∉ f :: rs := fun hm => by
      rw [(d.no b hm).2] at e; cases e
    rw [hold_out hn]; exact e
  intro v dx S' H' h1 h2 h3 h4 h5 h6 h7 h8 h9
  refine h v dx S' H' h1 h2 (fun b o e hb => h3 b o (key b o e) hb) (fun b o e => h4 b o (key b o e)) h5 h6 h7 ?_ h9
  cases q : Z.H0 dx with
  | none => rfl
  | some o => have h8 : (Z.hold H (f :: rs)).H0 dx = none := h8; rw [key dx o q] at h8; cases h8
end
def RelX (Z : Stt) (i : Nat) (σ : L2.St) (S H : Hp) (env : Env) (cs : List (List D)) : Prop := Rel Z σ S H env ∧ ∃ f rs, DeepL Z i σ S H env cs f rs
def FinD (ex : Nat → D → Prop) (Z : Stt) (i : Nat) (S : Hp) (r : DR) (D : Ends) : Prop := match r with
  | .next cs env' => ∀ σ' H' S', RelX Z i σ' S' H' env' cs → Sub S S' → D.nx σ' H'
  | .exc k d => ex k d
  | .bad => False
theorem FinD.mono {ex : Nat → D → Prop} {Z : Stt} {i : Nat} {S S' : Hp} {r : DR} {D : Ends} (h : FinD ex Z i S r D) (hs : Sub S S') : FinD ex Z i S' r D := by
  cases r with
  | next cs env' => exact fun σ' H' S2 R s2 => h σ' H' S2 R (hs.trans s2)
  | exc k d => exact h
  | bad => exact h
section
variable (xa : Nat → Addr) (E : XK) (Z : Stt) (C : CT) (i : Nat)
def semD (s : DS) : TS := fun D σ H => ∃ S env cs, RelX Z i σ S H env cs ∧ FinD (Exs Z.W xa E Z) Z i S (exD C i s cs env) D
def semDs (ss : DSs) : TS := fun D σ H => ∃ S env cs, RelX Z i σ S H env cs ∧ FinD (Exs Z.W xa E Z) Z i S (exDs C i ss cs env) D
end
section
variable {X : Cx} {xa : Nat → Addr} {E : XK} {Γ : Cfg} {k : Nat} {sc : Scope} {Z : Stt} {i : Nat}
/-- an expression within the block -/
theorem x_expr {C : CT} {fr : Bool} {e : IE} {σ : L2.St} {S H : Hp} {env : Env} {cs : List (List D)} {f : Addr} {rs : List Addr} {Q : VK} (R : Rel Z σ S H env) (d : DeepL Z i σ S H env cs f rs)
    (h : match ev C e env with
      | .ok u env1 => ∀ v H1 S1, Rel Z σ S1 H1 env1 → DeepL Z i σ S1 H1 env1 cs f rs → Sub S S1 → Vx (Z.hold H (f :: rs)) σ fr S1 H1 env1 u v → Q v H1
      | .exc k u => Exs Z.W xa E Z k u
      | .bad => False) : anyZ Z.W Z.own xa E C fr e σ H Q := by
  refine ⟨Z.hold H (f :: rs), rfl, rfl, S, env, relx_in R d, ?_⟩
  show Fin _ _ _ _ _ (ev C e env) Q
  cases he : ev C e env with
  | ok u env1 =>
    rw [he] at h
    intro v H1 S1 R1 hs vx
    obtain ⟨a1, a2, a3⟩ := relx_out R d R1
    exact h v H1 S1 a1 (d.keep hs rfl a2 a3) hs vx
  | exc k u => rw [he] at h; exact exs_hold d h
  | bad => rw [he] at h; exact h
/-- a test that reads all -/
def anyT (W : Wd) (xa : Nat → Addr) (E : XK) (C : CT) (e : IE) : TT := fun σ H Q => ∃ Z' : Stt, Z'.W = W ∧ Z'.own = [] ∧ semT xa (fun _ => E) Z' C e σ H Q
theorem any_pt {e : IE} {x : Expr} {W : Wd} (cx : CxOk X W xa (fun _ => E) Γ k sc) (h : corr Γ [] sc false e x = true) : PT X x (anyT W xa E (CF Γ.T k) e) :=
  ⟨fun pins s σ H Q I ⟨Z', hW, ho, q⟩ => ((sE xa Γ k e (Z := Z') (by rw [hW]; exact cx) (by rw [ho]; exact h)).2 rfl).run pins s σ H Q I q⟩
theorem x_test {C : CT} {e : IE} {σ : L2.St} {S H : Hp} {env : Env} {cs : List (List D)} {f : Addr} {rs : List Addr} {Q : Bool → Hp → Prop} (R : Rel Z σ S H env) (d : DeepL Z i σ S H env cs f rs)
    (h : match evb C e (env.set i (some (lsts cs))) with
      | .ok b _ => ∀ H1, Rel Z σ S H1 env → DeepL Z i σ S H1 env cs f rs → Q b H1
      | _ => False) : anyT Z.W xa E C e σ H Q := by
  classical
  obtain ⟨S1, hs1, R1⟩ := scal_rel R
  have hS1 : ∀ a ∈ f :: rs, S1 a = none ∨ S1 a = H a := fun a ha => by
    cases q : S1 a with
    | none => exact .inl rfl
    | some o => right; rw [R1.sub a o q]
  let S2 : Hp := fun b => if b ∈ f :: rs then H b else S1 b
  have e2 : ∀ {b}, b ∈ f :: rs → S2 b = H b := fun {b} hb => by
    show (if b ∈ f :: rs then H b else S1 b) = _
    rw [if_pos hb]
  have e3 : ∀ {b}, b ∉ f :: rs → S2 b = S1 b := fun {b} hb => by
    show (if b ∈ f :: rs then H b else S1 b) = _
    rw [if_neg hb]
  have hs2 : Sub S1 S2 := fun b o e => by
    by_cases hb : b ∈ f :: rs
    · rw [e2 hb]; exact R1.sub b o e
    · rw [e3 hb]; exact e
  have hl : i < env.length := by
    rw [← R.ln]
    exact (List.getElem?_eq_some_iff.mp d.sl).1
  have kids : ∀ (cs : List (List D)) (rs' : List Addr), cs.length = rs'.length → (∀ (j : Nat) (ds : List D), cs[j]? = some ds → ∃ a vs, rs'[j]? = some a ∧ a ∈ f :: rs ∧ H a = some (.lst vs) ∧ Reps Z.W S ds vs) → Reps Z.W S2 (cs.map D.lst) (rs'.map V.ref) := by
    intro cs
    induction cs with
    | nil =>
      intro rs' hl _
      cases rs' with
      | nil => exact reps_nil.mpr rfl
      | cons _ _ => simp at hl
    | cons c cs ih =>
      intro rs' hl h
      cases rs' with
      | nil => simp at hl
      | cons r rs' =>
        obtain ⟨a, vs, h1, h2, h3, h4⟩ := h 0 c rfl
        cases h1
        refine reps_cons.mpr ⟨_, _, rfl, rep_lst.mpr ⟨r, vs, rfl, by rw [e2 h2]; exact h3, h4.mono (hs1.trans hs2)⟩, ih rs' (by simpa using hl) fun j ds e => ?_⟩
        exact h (j + 1) ds e
  have R2 : Rel ⟨Z.W, [], S2, H, []⟩ σ S2 H (env.set i (some (lsts cs))) := by
    refine ⟨fun b o e => ?_, Sub.refl _, fun b o e _ => e, fun _ _ _ => rfl, fun j u e => ?_, fun j l a hj => by simp at hj, fun p hp => by simp at hp, by rw [List.length_set]; exact R.ln, R.sz⟩
    · by_cases hb : b ∈ f :: rs
      · rw [e2 hb] at e; exact e
      · rw [e3 hb] at e; exact R1.sub b o e
    · rw [getE_set] at e
      split at e
      · rename_i q
        obtain ⟨rfl, _⟩ := q
        cases e
        refine ⟨_, d.sl, fun z => by simp at z, fun _ => rep_lst.mpr ⟨f, _, rfl, by rw [e2 (List.mem_cons_self ..)]; exact d.top, kids cs rs d.len fun j ds e => ?_⟩⟩
        obtain ⟨a, vs, h1, h2, h3⟩ := d.kid j ds e
        exact ⟨a, vs, h1, List.mem_cons_of_mem _ (List.mem_of_getElem? h1), h2, h3⟩
      · obtain ⟨v, h1, h2, h3⟩ := R1.sl j u e
        exact ⟨v, h1, fun z => by simp at z, fun z => (h3 (by simp)).mono hs2⟩
  refine ⟨⟨Z.W, [], S2, H, []⟩, rfl, rfl, S2, _, R2, ?_⟩
  show Fin _ _ _ _ _ (evb C e _) Q
  cases he : evb C e (env.set i (some (lsts cs))) with
  | ok b env1 =>
    rw [he] at h
    intro b' H1 S3 R3 hs3 vb
    have vb : b = b' := vb
    subst vb
    have keepH : ∀ c o, H c = some o → H1 c = some o := fun c o e => R3.fr c o e fun p hp => by simp at hp
    have Rz : Rel Z σ S H1 env := R.up (Sub.refl S) (((hs1.trans hs2).trans R3.s0).trans R3.sub) keepH (fun _ _ _ => rfl) R3.sz
    refine h H1 Rz (d.keep (Sub.refl S) rfl (fun a ha => ⟨?_, (d.no a ha).1⟩) d.ap)
    obtain ⟨vs, e⟩ := d.there a ha
    rw [e]; exact keepH a _ e
  | exc k u => rw [he] at h; exact h.elim
  | bad => rw [he] at h; exact h.elim
/-- a new list is put behind -/
theorem d_appN {e : IE} {x n : Str} {xp ap cp p : Pos} {y : Expr} (cx : CxOk X Z.W xa (fun _ => E) Γ k sc) (h1 : n = "append") (hs : slotC Γ sc i x = true) (hst : notStar y = true) (hc : corr Γ Z.own sc true e y = true) (hl : (ap.endLine == cp.line) = true) :
    PS X (.Expr (.Call (.Attribute (.Name x xp) n ap) [y] [] cp) p) (semD xa E Z (CF Γ.T k) i (.appN e)) := by
  subst h1
  have hone : starEach [y] X.env = (false, eval y X.env) :: starEach [] X.env := notStar_each (env := fun X => X.env) hst
  refine PS.weak (ps_expr (pe_bm F.plainAttrs_list F.slot_list_append F.type_list_append mt_append (slot_own cx hs) (pa_cons (any_pe cx hc) pa_nil hone) rfl ?_ hl hone rfl)) fun D σ H h => ?_
  · rw [hone]; rfl
  · obtain ⟨S, env, cs, ⟨R, f, rs, d⟩, fin⟩ := h
    refine ⟨.ref f, d.sl, .inl ⟨rfl, _, .inl (.inl d.top)⟩, x_expr R d ?_⟩
    unfold exD at fin
    cases he : ev (CF Γ.T k) e env with
    | bad => rw [he] at fin; exact fin.elim
    | exc kk u => rw [he] at fin; exact fin
    | ok u env1 =>
      rw [he] at fin
      intro v H1 S1 R1 d1 hs1 vx
      cases u with
      | lst ds =>
        have fin : FinD (Exs Z.W xa E Z) Z i S (if cs.length < sizeLine then .next (cs ++ [ds]) env1 else .bad) D := fin
        split at fin
        · rename_i hlen
          obtain ⟨q, ds', vs, z1, rfl, z2, z3, z4, z5, z6⟩ := vx.1 rfl rfl
          cases z1
          have qn : q ∉ f :: rs := fun hm => by
            obtain ⟨ws, e1⟩ := d.there q hm
            rw [hold_in hm, e1] at z5
            cases z5
          have q0 : Z.H0 q = none := by rw [hold_out qn] at z5; exact z5
          refine ⟨f, rs.map V.ref, .ref q, rfl, rfl, d1.top, by rw [List.length_map, ← d1.len]; exact hlen, ?_⟩
          have nf := d1.no f (List.mem_cons_self ..)
          have nfr : f ∉ rs := (List.nodup_cons.mp d1.nd).1
          refine fin σ _ S1 ⟨R1.poke nf.2 nf.1 (d1.ap f (List.mem_cons_self ..)) (by show (rs.map V.ref ++ [V.ref q]).length ≤ sizeLine; rw [List.length_append, List.length_map, ← d1.len]; exact hlen), f, rs ++ [q], ?_⟩ hs1
          refine ⟨d1.sl, by rw [upd_same, List.map_append]; rfl, fun j es e1 => ?_, by rw [List.length_append, List.length_append, d1.len]; rfl, ?_, fun a ha => ?_, fun a ha => ?_⟩
          · by_cases hj : j < cs.length
            · rw [List.getElem?_append_left hj] at e1
              obtain ⟨a, ws, w1, w2, w3⟩ := d1.kid j es e1
              refine ⟨a, ws, ?_, ?_, w3⟩
              · rw [List.getElem?_append_left (by rw [← d1.len]; exact hj)]; exact w1
              · have hne : a ≠ f := fun z => by
                  subst z
                  exact nfr (List.mem_of_getElem? w1)
                rw [upd_ne hne]; exact w2
            · have hj2 : j = cs.length := by
                have := (List.getElem?_eq_some_iff.mp e1).1
                rw [List.length_append] at this
                simp at this
                omega
              subst hj2
              rw [List.getElem?_append_right (Nat.le_refl _), Nat.sub_self] at e1
              cases e1
              refine ⟨q, vs, ?_, ?_, z4⟩
              · rw [d1.len, List.getElem?_append_right (Nat.le_refl _), Nat.sub_self]; rfl
              · have hne : q ≠ f := fun z => by
                  subst z
                  exact qn (List.mem_cons_self ..)
                rw [upd_ne hne]; exact z2
          · have : (f :: (rs ++ [q])) = (f :: rs) ++ [q] := rfl
            rw [this, List.nodup_append]
            refine ⟨d1.nd, by simp, fun a ha b hb => ?_⟩
            have : b = q := by simpa using hb
            subst this
            exact fun z => qn (z ▸ ha)
          · have ha' : a ∈ (f :: rs) ++ [q] := ha
            rcases List.mem_append.mp ha' with ha | ha
            · exact d1.no a ha
            · have : a = q := by simpa using ha
              subst this
              exact ⟨z3, q0⟩
          · have ha' : a ∈ (f :: rs) ++ [q] := ha
            rcases List.mem_append.mp ha' with ha | ha
            · exact d1.ap a ha
            · have : a = q := by simpa using ha
              subst this
              exact z6
        · exact fin.elim
      | _ => exact fin.elim
/-- put behind the list at a place -/
theorem d_appC {c e : IE} {x n : Str} {xp sp ap cp p : Pos} {ie y : Expr} (cx : CxOk X Z.W xa (fun _ => E) Γ k sc) (h1 : n = "append") (hs : slotC Γ sc i x = true) (hi : corr Γ Z.own sc false c ie = true) (hp : plainIx ie = true) (hst : notStar y = true) (hc : corr Γ Z.own sc false e y = true) (hl : (ap.endLine == cp.line) = true) :
    PS X (.Expr (.Call (.Attribute (.Subscript (.Name x xp) ie sp) n ap) [y] [] cp) p) (semD xa E Z (CF Γ.T k) i (.appC c e)) := by
  subst h1
  have hone : starEach [y] X.env = (false, eval y X.env) :: starEach [] X.env := notStar_each (env := fun X => X.env) hst
  refine PS.weak (ps_expr (pe_bm F.plainAttrs_list F.slot_list_append F.type_list_append mt_append (pe_ix (r := rUx X) rUx_ok (slot_own cx hs) (any_pe cx hi) (plain_ix hp)) (pa_cons (any_pe cx hc) pa_nil hone) rfl ?_ hl hone rfl)) fun D σ H h => ?_
  · rw [hone]; rfl
  · obtain ⟨S, env, cs, ⟨R, f, rs, d⟩, fin⟩ := h
    refine ⟨.ref f, d.sl, x_expr R d ?_⟩
    unfold exD at fin
    cases he : ev (CF Γ.T k) c env with
    | bad => rw [he] at fin; exact fin.elim
    | exc kk u => rw [he] at fin; exact fin
    | ok u env1 =>
      rw [he] at fin
      intro v H1 S1 R1 d1 hs1 vx
      have r1 := vx_false vx
      cases u with
      | int z =>
        rw [rep_int] at r1
        subst r1
        simp only at fin
        cases hj : ixN cs.length z with
        | none => rw [hj] at fin; exact fin.elim
        | some j =>
          rw [hj] at fin
          simp only at fin
          cases hcj : cs[j]? with
          | none => rw [hcj] at fin; exact fin.elim
          | some ds =>
            rw [hcj] at fin
            simp only at fin
            obtain ⟨a, vs, w1, w2, w3⟩ := d1.kid j ds hcj
            have hat : atI (rs.map V.ref) z = some (.ref a) := by
              unfold atI
              rw [List.length_map, ← d1.len, hj]
              show (rs.map V.ref)[j]? = _
              rw [List.getElem?_map, w1]
              rfl
            refine ⟨_, ix_list, f, rs.map V.ref, z, .ref a, rfl, rfl, SqL.of d1.top, hat, .inl ⟨rfl, _, .inl (.inl w2)⟩, x_expr R1 d1 ?_⟩
            cases he2 : ev (CF Γ.T k) e env1 with
            | bad => rw [he2] at fin; exact fin.elim
            | exc kk u => rw [he2] at fin; exact fin
            | ok u env2 =>
              rw [he2] at fin
              intro w H2 S2 R2 d2 hs2 wx
              have r2 := vx_false wx
              have fin : FinD (Exs Z.W xa E Z) Z i S (if ds.length < sizeLine then .next (cs.set j (ds ++ [u])) env2 else .bad) D := fin
              split at fin
              · rename_i hlen
                obtain ⟨a', vs', y1, y2, y3⟩ := d2.kid j ds hcj
                rw [w1] at y1
                cases y1
                have har : a ∈ rs := List.mem_of_getElem? w1
                have ham : a ∈ f :: rs := List.mem_cons_of_mem _ har
                have nfr : f ∉ rs := (List.nodup_cons.mp d2.nd).1
                have ndr : rs.Nodup := (List.nodup_cons.mp d2.nd).2
                have hvl : vs'.length < sizeLine := by rw [← y3.length]; exact hlen
                refine ⟨a, vs', w, rfl, rfl, y2, hvl, ?_⟩
                have nf := d2.no a ham
                refine fin σ _ S2 ⟨R2.poke nf.2 nf.1 (d2.ap a ham) (by show (vs' ++ [w]).length ≤ sizeLine; rw [List.length_append]; exact hvl), f, rs, ?_⟩ (hs1.trans hs2)
                have hnf : f ≠ a := fun z => by
                  subst z
                  exact nfr har
                refine ⟨d2.sl, by rw [upd_ne hnf]; exact d2.top, fun j' es e1 => ?_, by rw [List.length_set]; exact d2.len, d2.nd, d2.no, d2.ap⟩
                by_cases hjj : j = j'
                · subst hjj
                  rw [List.getElem?_set_self (List.getElem?_eq_some_iff.mp hcj).1] at e1
                  cases e1
                  exact ⟨a, _, w1, upd_same, y3.append (reps_cons.mpr ⟨w, [], rfl, r2, reps_nil.mpr rfl⟩)⟩
                · rw [List.getElem?_set_ne hjj] at e1
                  obtain ⟨b, ws, q1, q2, q3⟩ := d2.kid j' es e1
                  refine ⟨b, ws, q1, ?_, q3⟩
                  have hne : b ≠ a := fun z => by
                    subst z
                    obtain ⟨l1, g1⟩ := List.getElem?_eq_some_iff.mp w1
                    obtain ⟨l2, g2⟩ := List.getElem?_eq_some_iff.mp q1
                    exact hjj ((List.getElem_inj ndr).mp (g1.trans g2.symm))
                  rw [upd_ne hne]; exact q2
              · exact fin.elim
      | _ => exact fin.elim
theorem d_ifs {c : IE} {a b : DSs} {t : Expr} {x y : List Stmt} {p : Pos} (cx : CxOk X Z.W xa (fun _ => E) Γ k sc) (hc : corr Γ [] sc false c t = true) (ha : PSs X x (semDs xa E Z (CF Γ.T k) i a)) (hb : PSs X y (semDs xa E Z (CF Γ.T k) i b)) : PS X (.If t x y p) (semD xa E Z (CF Γ.T k) i (.ifs c a b)) := by
  refine PS.weak (ps_if (any_pt cx hc) ha hb) fun D σ H h => ?_
  obtain ⟨S, env, cs, ⟨R, f, rs, d⟩, fin⟩ := h
  refine x_test R d ?_
  unfold exD at fin
  cases he : evb (CF Γ.T k) c (env.set i (some (lsts cs))) with
  | bad => rw [he] at fin; exact fin.elim
  | exc kk u => rw [he] at fin; exact fin.elim
  | ok u env1 =>
    rw [he] at fin
    intro H1 R1 d1
    cases u with
    | true => rw [if_pos rfl]; exact ⟨S, env, cs, ⟨R1, f, rs, d1⟩, fin⟩
    | false => rw [if_neg (by simp)]; exact ⟨S, env, cs, ⟨R1, f, rs, d1⟩, fin⟩
/-- a slot that no target names -/
theorem bindT_other {t : IT} {d : D} {env env' : Env} {j : Nat} (h : bindT t d env = some env') (hj : j ∉ t.slots) : getE env' j = getE env j := by
  cases t with
  | nm i =>
    unfold bindT at h
    simp only at h
    split at h
    · cases h
      have : j ≠ i := by simpa [IT.slots] using hj
      rw [getE_set, if_neg fun z => this z.1.symm]
    · cases h
  | tp is =>
    unfold bindT at h
    simp only at h
    split at h
    · rename_i ds
      split at h
      · cases h
        have hj : j ∉ is := hj
        have go : ∀ (ps : List (Nat × D)) (e : Env), (∀ p ∈ ps, p.1 ∈ is) → getE (ps.foldl (fun e p => e.set p.1 (some p.2)) e) j = getE e j := by
          intro ps
          induction ps with
          | nil => intro e _; rfl
          | cons q ps ih =>
            intro e hps
            rw [List.foldl_cons, ih _ fun p hp => hps p (List.mem_cons_of_mem _ hp), getE_set, if_neg]
            rintro ⟨z, _⟩
            exact hj (z ▸ hps q (List.mem_cons_self ..))
        exact go _ _ fun p hp => (List.of_mem_zip hp).1
      · cases h
    · cases h
theorem hg_absurd {t : IT} {d : D} {env env' : Env} {j : Nat} (hg : getE env j = none) (h : bindT t d env = some env') (hj : j ∉ t.slots) (he : getE env' j ≠ none) : False := he (by rw [bindT_other h hj, hg])
/-- a walk within the block -/
def anyI (W : Wd) (own : List Nat) (xa : Nat → Addr) (E : XK) (C : CT) (it : II) : TI := fun σ H Q => ∃ Z' : Stt, Z'.W = W ∧ Z'.own = own ∧ semI xa (fun _ => E) Z' C it σ H Q
theorem any_pi {it : II} {tg x : Expr} {W : Wd} {own : List Nat} (cx : CxOk X W xa (fun _ => E) Γ k sc) (h : corri Γ own sc it tg x = true) : PI X tg x (anyI W own xa E (CF Γ.T k) it) := ⟨fun pins s σ H Q I ⟨Z', hW, ho, q⟩ => (sI xa Γ k it (Z := Z') (by rw [hW]; exact cx) (by rw [ho]; exact h)).run pins s σ H Q I q⟩
theorem d_for {t : IT} {it : II} {a : DSs} {tg x : Expr} {body : List Stmt} {p : Pos} {par : List Nat} (cx : CxOk X Z.W xa (fun _ => E) Γ k sc) (sx : SxOk X sc) (hP : ∀ p ∈ Z.P, p.1 ∈ par) (hsl : t.slots.all (fun j => !decide (j ∈ par) && !decide (j ∈ Z.own) && !decide (j = i)) = true) (ht : itC Γ sc t tg = true) (hi : corri Γ Z.own sc it tg x = true) (hn : notSet x = true)
    (hb : PSs X body (semDs xa E Z (CF Γ.T k) i a)) : PS X (.For tg x body [] p) (semD xa E Z (CF Γ.T k) i (.for_ t it a)) := by
  have hsp : ∀ j ∈ t.slots, j ∉ par ∧ j ∉ Z.own ∧ j ≠ i := fun j hj => by
    obtain ⟨q, q3⟩ := ba (List.all_eq_true.mp hsl j hj)
    obtain ⟨q1, q2⟩ := ba q
    exact ⟨of_decide_eq_false (nf q1), of_decide_eq_false (nf q2), of_decide_eq_false (nf q3)⟩
  refine PS.weak (ps_for sx.pass cx.calm (any_pi cx hi) (g_it cx ht) hb (fold_ok hn)) fun D σ H h => ?_
  obtain ⟨S, env, cs, ⟨R, f, rs, d⟩, fin⟩ := h
  refine ⟨Z.hold H (f :: rs), rfl, rfl, S, env, relx_in R d, ?_⟩
  show Fin _ _ _ _ _ (evi (CF Γ.T k) it env) _
  unfold exD at fin
  cases he : evi (CF Γ.T k) it env with
  | bad => rw [he] at fin; exact fin.elim
  | exc kk u => rw [he] at fin; exact exs_hold d fin
  | ok ds env1 =>
    rw [he] at fin
    intro J H1 S1 R1 hs1 wk
    obtain ⟨a1, a2, a3⟩ := relx_out R d R1
    have X1 : RelX Z i σ S1 H1 env1 cs := ⟨a1, f, rs, d.keep hs1 rfl a2 a3⟩
    have wk : Walk Z.W S1 J ds := wk
    obtain ⟨r, hr⟩ : ∃ r, forDd t (exDs (CF Γ.T k) i a) ds cs env1 = r := ⟨_, rfl⟩
    have f1 : FinD (Exs Z.W xa E Z) Z i S1 r D := by
      rw [← hr]
      exact FinD.mono fin hs1
    refine ⟨fun l m σ H => m = ds.length - l ∧ l ≤ ds.length ∧ ∃ S2 env2 cs2, Sub S1 S2 ∧ RelX Z i σ S2 H env2 cs2 ∧ forDd t (exDs (CF Γ.T k) i a) (ds.drop l) cs2 env2 = r, ⟨ds.length, by simp, Nat.zero_le _, S1, env1, cs, Sub.refl _, X1, by rw [List.drop_zero]; exact hr⟩, ?_⟩
    rintro l m σ2 H2 ⟨rfl, hle, S2, env2, cs2, hs2, X2, hrec⟩
    obtain ⟨R2, f2, rs2, d2⟩ := X2
    rw [← hrec] at f1
    by_cases hlt : l < ds.length
    · right
      refine ⟨wk.go l H2 (hs2.trans R2.sub) hlt, fun σ' H' => l + 1 ≤ ds.length ∧ ∃ S2 env2 cs2, Sub S1 S2 ∧ RelX Z i σ' S2 H' env2 cs2 ∧ forDd t (exDs (CF Γ.T k) i a) (ds.drop (l + 1)) cs2 env2 = r, fun σ' H' hN => ⟨ds.length - (l + 1), by omega, rfl, hN⟩, fun v H' y => ?_⟩
      have hx : ds[l]? = some ds[l] := List.getElem?_eq_getElem hlt
      have hdrop : ds.drop l = ds[l] :: ds.drop (l + 1) := List.drop_eq_getElem_cons hlt
      rw [hdrop] at f1 hrec
      unfold forDd at f1 hrec
      have hitem : ∃ S3, Sub S2 S3 ∧ Rel Z σ2 S3 H' env2 ∧ DeepL Z i σ2 S3 H' env2 cs2 f2 rs2 ∧ Rep Z.W S3 ds[l] v := by
        rcases wk.yld l H2 v H' ds[l] (hs2.trans R2.sub) y hx with ⟨rfl, rx⟩ | ⟨p, es, ws, hp, rfl, rfl, e2, rs, hlen⟩
        · exact ⟨S2, Sub.refl _, R2, d2, rx.mono hs2⟩
        · have hs := Sub.upd (o := .tup ws) (R2.sub.none hp)
          refine ⟨_, hs, R2.both hp (Nat.le_trans hlen (by decide)), d2.keep hs rfl (fun a ha => ?_) d2.ap, ?_⟩
          · obtain ⟨us, e⟩ := d2.there a ha
            have hne : a ≠ p := ne_of_none e hp
            exact ⟨upd_ne hne, by rw [upd_ne hne]; exact (d2.no a ha).1⟩
          · rw [e2]
            exact rep_tup.mpr ⟨p, ws, rfl, upd_same, (rs.mono hs2).mono hs⟩
      obtain ⟨S3, hs3, R3, d3, rx⟩ := hitem
      cases hbind : bindT t ds[l] env2 with
      | none => rw [hbind] at f1; exact f1.elim
      | some env3 =>
        rw [hbind] at f1 hrec
        simp only at f1 hrec
        rw [← cx.K]
        refine target_rel R3 hbind (fun p hp z => (hsp _ z).1 (hP p hp)) rx fun σ3 own3 hown R4 hσ3 => ?_
        have R4 : Rel Z σ3 S3 H' env3 := Rel.marks (Z := { Z with own := own3 }) R4 fun j => by
          rw [hown]
          exact ⟨fun z => ⟨z, fun w => (hsp _ w).2.1 z⟩, fun z => z.1⟩
        have hi3 : i ∉ t.slots := fun z => (hsp i z).2.2 rfl
        have d4 : DeepL Z i σ3 S3 H' env3 cs2 f2 rs2 := by
          refine d3.keep (Sub.refl _) (hσ3 i hi3) (fun a ha => ⟨rfl, (d3.no a ha).1⟩) fun a ha j hj he hs => ?_
          obtain ⟨⟨_, _⟩, q2, q3⟩ := R4.ownSome hj he hs
          have hjt : j ∉ t.slots := fun z => (hsp j z).2.1 hj
          rw [hσ3 j hjt] at hs
          by_cases hg : getE env2 j = none
          · refine hg_absurd hg hbind hjt he
          · exact d3.ap a ha j hj hg hs
        refine ⟨S3, env3, cs2, ⟨R4, f2, rs2, d4⟩, ?_⟩
        have f1 := FinD.mono f1 (hs2.trans hs3)
        cases hbd : exDs (CF Γ.T k) i a cs2 env3 with
        | next cs4 env4 => rw [hbd] at hrec; exact fun σ' H' S' R' hs' => ⟨hlt, S', env4, cs4, hs2.trans (hs3.trans hs'), R', hrec⟩
        | exc j u => rw [hbd] at f1; exact f1
        | bad => rw [hbd] at f1; exact f1
    · left
      have hi' : ds.length ≤ l := by omega
      refine ⟨wk.stop l H2 (hs2.trans R2.sub) hi', ?_⟩
      have hnil : ds.drop l = [] := List.drop_eq_nil_of_le hi'
      rw [hnil] at f1
      unfold forDd at f1
      exact f1 _ _ _ ⟨R2, f2, rs2, d2⟩ hs2
end
section
variable {Z : Stt} {i : Nat} {σ : L2.St} {S H : Hp} {env : Env} {cs : List (List D)}
/-- the block begins -/
theorem relx_start (R : Rel { Z with own := i :: Z.own } σ S H env) (hp : ∀ p ∈ Z.P, p.1 ≠ i) (e0 : getE env i = some (.lst [])) : RelX { Z with own := Z.own.filter (· ≠ i) } i σ S H (env.set i none) [] := by
  have mem : ∀ {j}, j ∈ Z.own.filter (· ≠ i) ↔ j ∈ Z.own ∧ j ≠ i := fun {j} => by simp
  have hi : i ∈ i :: Z.own := List.mem_cons_self ..
  obtain ⟨a, ds, vs, e1, s1, hH, hS, rs, h0⟩ := R.owned hi e0
  cases e1
  rw [reps_nil] at rs
  subst rs
  have other : ∀ {j u}, getE (env.set i none) j = some u → j ≠ i ∧ getE env j = some u := fun {j u} e => by
    rw [getE_setN] at e
    split at e
    · cases e
    · rename_i hj
      exact ⟨fun z => hj z.symm, e⟩
  have other' : ∀ {j}, getE (env.set i none) j ≠ none → j ≠ i ∧ getE env j ≠ none := fun {j} e => by
    cases q : getE (env.set i none) j with
    | none => exact absurd q e
    | some u =>
      obtain ⟨h1, h2⟩ := other q
      exact ⟨h1, by rw [h2]; exact fun z => by cases z⟩
  have ne0 : getE env i ≠ none := by rw [e0]; exact fun z => by cases z
  have hH0 : Z.H0 a = none := by
    rcases h0 with z | ⟨p, hpp, rfl⟩
    · exact z
    · obtain ⟨y1, y2, y3⟩ := R.pa p hpp
      exact absurd (R.dj p.1 i p.2 y1 hi y3 ne0 y2 s1) (hp p hpp)
  refine ⟨⟨R.sub, R.s0, R.fr, R.gr, fun j u e => ?_, fun j l b hj hl e1 e2 e3 e4 => ?_, fun p hpp => ?_, by rw [List.length_set]; exact R.ln, R.sz⟩, a, [], s1, hH, fun j ds e => by simp at e, rfl, by simp, fun b hb => ?_, fun b hb j hj e q => ?_⟩
  · obtain ⟨hj, e⟩ := other e
    obtain ⟨v, x1, x2, x3⟩ := R.sl j u e
    refine ⟨v, x1, fun z => x2 (List.mem_cons_of_mem _ (mem.mp z).1), fun z => x3 fun w => z (mem.mpr ⟨?_, hj⟩)⟩
    rcases List.mem_cons.mp w with w | w
    · exact absurd w hj
    · exact w
  · exact R.dj j l b (List.mem_cons_of_mem _ (mem.mp hj).1) (List.mem_cons_of_mem _ (mem.mp hl).1) (other' e1).2 (other' e2).2 e3 e4
  · obtain ⟨y1, y2, y3⟩ := R.pa p hpp
    have hj := hp p hpp
    refine ⟨mem.mpr ⟨?_, hj⟩, y2, ?_⟩
    · rcases List.mem_cons.mp y1 with w | w
      · exact absurd w hj
      · exact w
    · rw [getE_setN, if_neg fun z => hj z.symm]; exact y3
  · have : b = a := by simpa using hb
    subst this
    exact ⟨hS, hH0⟩
  · have : b = a := by simpa using hb
    subst this
    exact (mem.mp hj).2 (R.dj j i b (List.mem_cons_of_mem _ (mem.mp hj).1) hi (other' e).2 ne0 q s1)
/-- the block ends: all is shared -/
theorem relx_end (ho : i ∉ Z.own) (X : RelX Z i σ S H env cs) : ∃ S', Sub S S' ∧ Rel Z σ S' H (env.set i (some (lsts cs))) := by
  classical
  obtain ⟨R, f, rs, d⟩ := X
  let S2 : Hp := fun b => if b ∈ f :: rs then H b else S b
  have e2 : ∀ {b}, b ∈ f :: rs → S2 b = H b := fun {b} hb => by
    show (if b ∈ f :: rs then H b else S b) = _
    rw [if_pos hb]
  have e3 : ∀ {b}, b ∉ f :: rs → S2 b = S b := fun {b} hb => by
    show (if b ∈ f :: rs then H b else S b) = _
    rw [if_neg hb]
  have hs : Sub S S2 := fun b o e => by
    by_cases hb : b ∈ f :: rs
    · rw [(d.no b hb).1] at e; cases e
    · rw [e3 hb]; exact e
  have kids : ∀ (cs : List (List D)) (rs' : List Addr), cs.length = rs'.length → (∀ (j : Nat) (ds : List D), cs[j]? = some ds → ∃ a vs, rs'[j]? = some a ∧ a ∈ f :: rs ∧ H a = some (.lst vs) ∧ Reps Z.W S ds vs) → Reps Z.W S2 (cs.map D.lst) (rs'.map V.ref) := by
    intro cs
    induction cs with
    | nil =>
      intro rs' hl _
      cases rs' with
      | nil => exact reps_nil.mpr rfl
      | cons _ _ => simp at hl
    | cons c cs ih =>
      intro rs' hl h
      cases rs' with
      | nil => simp at hl
      | cons r rs' =>
        obtain ⟨a, vs, h1, h2, h3, h4⟩ := h 0 c rfl
        cases h1
        exact reps_cons.mpr ⟨_, _, rfl, rep_lst.mpr ⟨r, vs, rfl, by rw [e2 h2]; exact h3, h4.mono hs⟩, ih rs' (by simpa using hl) fun j ds e => h (j + 1) ds e⟩
  refine ⟨S2, hs, ⟨fun b o e => ?_, R.s0.trans hs, R.fr, fun b o e => ?_, fun j u e => ?_, fun j l a hj hl e1 e2 e3 e4 => ?_, fun p hp => ?_, by rw [List.length_set]; exact R.ln, R.sz⟩⟩
  · by_cases hb : b ∈ f :: rs
    · rw [e2 hb] at e; exact e
    · rw [e3 hb] at e; exact R.sub b o e
  · have hb : b ∉ f :: rs := fun hm => by rw [(d.no b hm).2] at e; cases e
    rw [e3 hb]; exact R.gr b o e
  · rw [getE_set] at e
    split at e
    · rename_i q
      obtain ⟨rfl, _⟩ := q
      cases e
      refine ⟨_, d.sl, fun z => absurd z ho, fun _ => rep_lst.mpr ⟨f, _, rfl, by rw [e2 (List.mem_cons_self ..)]; exact d.top, kids cs rs d.len fun j ds e => ?_⟩⟩
      obtain ⟨a, vs, h1, h2, h3⟩ := d.kid j ds e
      exact ⟨a, vs, h1, List.mem_cons_of_mem _ (List.mem_of_getElem? h1), h2, h3⟩
    · obtain ⟨v, h1, h2, h3⟩ := R.sl j u e
      refine ⟨v, h1, fun z => ?_, fun z => (h3 z).mono hs⟩
      obtain ⟨a, ds, vs, rfl, rfl, y3, y4, y5, y6⟩ := h2 z
      have hn : a ∉ f :: rs := fun hm => d.ap a hm j z (by rw [e]; exact fun q => by cases q) h1
      exact ⟨a, ds, vs, rfl, rfl, y3, by rw [e3 hn]; exact y4, y5.mono hs, y6⟩
  · have n1 : i ≠ j := fun z => ho (z ▸ hj)
    have n2 : i ≠ l := fun z => ho (z ▸ hl)
    rw [getE_set, if_neg fun z => n1 z.1] at e1
    rw [getE_set, if_neg fun z => n2 z.1] at e2
    exact R.dj j l a hj hl e1 e2 e3 e4
  · obtain ⟨y1, y2, y3⟩ := R.pa p hp
    have n1 : i ≠ p.1 := fun z => ho (z ▸ y1)
    exact ⟨y1, y2, by rw [getE_set, if_neg fun z => n1 z.1]; exact y3⟩
end
mutual
theorem sD (xa : Nat → Addr) (Γ : Cfg) (k : Nat) (par : List Nat) (i : Nat) : (s : DS) → ∀ {X : Cx} {E : XK} {sc : Scope} {Z : Stt} {st : Stmt}, CxOk X Z.W xa (fun _ => E) Γ k sc → SxOk X sc → (∀ p ∈ Z.P, p.1 ∈ par) → corrD Γ sc par i Z.own s st = true →
    PS X st (semD xa E Z (CF Γ.T k) i s)
  | .appN e, X, E, sc, Z, st, cx, sx, hP, h => by
    unfold corrD at h
    split at h <;> try contradiction
    rename_i heq
    cases heq
    obtain ⟨h, h5⟩ := ba h
    obtain ⟨h, h4⟩ := ba h
    obtain ⟨h, h3⟩ := ba h
    obtain ⟨h1, h2⟩ := ba h
    exact d_appN cx (of_decide_eq_true h1) h2 h3 h4 h5
  | .appC c e, X, E, sc, Z, st, cx, sx, hP, h => by
    unfold corrD at h
    split at h <;> try contradiction
    rename_i heq
    cases heq
    obtain ⟨h, h7⟩ := ba h
    obtain ⟨h, h6⟩ := ba h
    obtain ⟨h, h5⟩ := ba h
    obtain ⟨h, h4⟩ := ba h
    obtain ⟨h, h3⟩ := ba h
    obtain ⟨h1, h2⟩ := ba h
    exact d_appC cx (of_decide_eq_true h1) h2 h3 h4 h5 h6 h7
  | .ifs c a b, X, E, sc, Z, st, cx, sx, hP, h => by
    unfold corrD at h
    split at h <;> try contradiction
    rename_i heq
    cases heq
    obtain ⟨h, h3⟩ := ba h
    obtain ⟨h1, h2⟩ := ba h
    exact d_ifs cx h1 (sDs xa Γ k par i a cx sx hP h2) (sDs xa Γ k par i b cx sx hP h3)
  | .for_ t it a, X, E, sc, Z, st, cx, sx, hP, h => by
    unfold corrD at h
    split at h <;> try contradiction
    rename_i heq
    cases heq
    obtain ⟨h, h5⟩ := ba h
    obtain ⟨h, h4⟩ := ba h
    obtain ⟨h, h3⟩ := ba h
    obtain ⟨h1, h2⟩ := ba h
    exact d_for cx sx hP h1 h2 h3 h4 (sDs xa Γ k par i a cx sx hP h5)
theorem sDs (xa : Nat → Addr) (Γ : Cfg) (k : Nat) (par : List Nat) (i : Nat) : (ss : DSs) → ∀ {X : Cx} {E : XK} {sc : Scope} {Z : Stt} {sts : List Stmt}, CxOk X Z.W xa (fun _ => E) Γ k sc → SxOk X sc → (∀ p ∈ Z.P, p.1 ∈ par) → corrDs Γ sc par i Z.own ss sts = true →
    PSs X sts (semDs xa E Z (CF Γ.T k) i ss)
  | .nil, X, E, sc, Z, sts, cx, sx, hP, h => by
    cases sts with
    | nil =>
      refine PSs.weak pss_nil fun D σ H h => ?_
      obtain ⟨S, env, cs, R, fin⟩ := h
      unfold exDs at fin
      exact fin _ _ _ R (Sub.refl _)
    | cons _ _ => unfold corrDs at h; cases h
  | .cons s ss, X, E, sc, Z, sts, cx, sx, hP, h => by
    cases sts with
    | nil => unfold corrDs at h; cases h
    | cons st sts =>
      unfold corrDs at h
      obtain ⟨h1, h2⟩ := ba h
      refine PSs.weak (pss_cons (sD xa Γ k par i s cx sx hP h1) (sDs xa Γ k par i ss cx sx hP h2)) fun D σ H q => ?_
      obtain ⟨S, env, cs, R, fin⟩ := q
      refine ⟨S, env, cs, R, ?_⟩
      have fin : FinD (Exs Z.W xa E Z) Z i S (match exD (CF Γ.T k) i s cs env with
        | .next cs1 env1 => exDs (CF Γ.T k) i ss cs1 env1
        | r => r) D := fin
      cases hx : exD (CF Γ.T k) i s cs env with
      | next cs1 env1 => rw [hx] at fin; exact fun σ' H' S' R' hs => ⟨S', env1, cs1, R', FinD.mono (Z := Z) fin hs⟩
      | exc j d => rw [hx] at fin; exact fin
      | bad => rw [hx] at fin; exact fin
end
/-- .. with what stands behind it -/
theorem sDsR (xa : Nat → Addr) (Γ : Cfg) (k : Nat) (par : List Nat) (i : Nat) : (ss : DSs) → ∀ {X : Cx} {E : XK} {sc : Scope} {Z : Stt} {sts rest : List Stmt} {t : TS}, CxOk X Z.W xa (fun _ => E) Γ k sc → SxOk X sc → (∀ p ∈ Z.P, p.1 ∈ par) → corrDs Γ sc par i Z.own ss sts = true → PSs X rest t →
    PSs X (sts ++ rest) (fun D σ H => semDs xa E Z (CF Γ.T k) i ss { D with nx := t D } σ H)
  | .nil, X, E, sc, Z, sts, rest, t, cx, sx, hP, h, hr => by
    cases sts with
    | nil =>
      refine PSs.weak hr fun D σ H h => ?_
      obtain ⟨S, env, cs, R, fin⟩ := h
      unfold exDs at fin
      exact fin _ _ _ R (Sub.refl _)
    | cons _ _ => unfold corrDs at h; cases h
  | .cons s ss, X, E, sc, Z, sts, rest, t, cx, sx, hP, h, hr => by
    cases sts with
    | nil => unfold corrDs at h; cases h
    | cons st sts =>
      unfold corrDs at h
      obtain ⟨h1, h2⟩ := ba h
      refine PSs.weak (pss_cons (sD xa Γ k par i s cx sx hP h1) (sDsR xa Γ k par i ss cx sx hP h2 hr)) fun D σ H q => ?_
      obtain ⟨S, env, cs, R, fin⟩ := q
      refine ⟨S, env, cs, R, ?_⟩
      have fin : FinD (Exs Z.W xa E Z) Z i S (match exD (CF Γ.T k) i s cs env with
        | .next cs1 env1 => exDs (CF Γ.T k) i ss cs1 env1
        | r => r) { D with nx := t D } := fin
      cases hx : exD (CF Γ.T k) i s cs env with
      | next cs1 env1 => rw [hx] at fin; exact fun σ' H' S' R' hs => ⟨S', env1, cs1, R', FinD.mono (Z := Z) fin hs⟩
      | exc j d => rw [hx] at fin; exact fin
      | bad => rw [hx] at fin; exact fin
end VI
/-! VIi: all statements. -/
namespace VI
open PySem PySem.Spec PyProof.Rows L2
mutual
theorem sS (xa : Nat → Addr) (Γ : Cfg) (k : Nat) (par : List Nat) (fr : Bool) : (s : IS) → ∀ {X : Cx} {E : XK} {sc : Scope} {Z : Stt} {own' lp : List Nat} {st : Stmt}, CxOk X Z.W xa (fun _ => E) Γ k sc → SxOk X sc → (∀ p ∈ Z.P, p.1 ∈ par) → corrS Γ sc par fr s Z.own lp st = some own' →
    PS X st (semS xa E Z (CF Γ.T k) own' lp fr s)
  | .set t f e, X, E, sc, Z, own', lp, st, cx, sx, hP, h => by
    unfold corrS at h
    split at h <;> try contradiction
    rename_i heq
    cases heq
    split at h
    · rename_i hc
      cases h
      obtain ⟨hc, h4⟩ := ba hc
      obtain ⟨hc, h3⟩ := ba hc
      obtain ⟨h1, h2⟩ := ba hc
      exact s_set cx sx hP h1 h2 h3 h4 rfl
    · cases h
  | .par i j a b, X, E, sc, Z, own', lp, st, cx, sx, hP, h => by
    unfold corrS at h
    split at h <;> try contradiction
    rename_i heq
    cases heq
    split at h
    · rename_i hc
      cases h
      obtain ⟨hc, h8⟩ := ba hc
      obtain ⟨hc, h7⟩ := ba hc
      obtain ⟨hc, h6⟩ := ba hc
      obtain ⟨hc, h5⟩ := ba hc
      obtain ⟨hc, h4⟩ := ba hc
      obtain ⟨hc, h3⟩ := ba hc
      obtain ⟨h1, h2⟩ := ba hc
      exact s_par cx sx hP (of_decide_eq_true h1) (of_decide_eq_false (nf h2)) (of_decide_eq_false (nf h3)) h4 h5 h6 h7 (of_decide_eq_true h8) rfl
    · cases h
  | .parf i j fi fj a b, X, E, sc, Z, own', lp, st, cx, sx, hP, h => by
    unfold corrS at h
    split at h <;> try contradiction
    rename_i heq
    cases heq
    split at h
    · rename_i hc
      cases h
      obtain ⟨hc, q10⟩ := ba hc
      obtain ⟨hc, q9⟩ := ba hc
      obtain ⟨hc, q8⟩ := ba hc
      obtain ⟨hc, q7⟩ := ba hc
      obtain ⟨hc, q6⟩ := ba hc
      obtain ⟨hc, q5⟩ := ba hc
      obtain ⟨hc, q4⟩ := ba hc
      obtain ⟨hc, q3⟩ := ba hc
      obtain ⟨q1, q2⟩ := ba hc
      exact s_parf cx sx hP (of_decide_eq_true q1) (of_decide_eq_false (nf q2)) (of_decide_eq_false (nf q3)) q4 q5 q6 q7 q8 q9 (of_decide_eq_true q10) rfl
    · cases h
  | .par3 i j l a b c, X, E, sc, Z, own', lp, st, cx, sx, hP, h => by
    unfold corrS at h
    split at h <;> try contradiction
    rename_i heq
    cases heq
    split at h
    · rename_i hc
      cases h
      obtain ⟨hc, q12⟩ := ba hc
      obtain ⟨hc, q11⟩ := ba hc
      obtain ⟨hc, q10⟩ := ba hc
      obtain ⟨hc, q9⟩ := ba hc
      obtain ⟨hc, q8⟩ := ba hc
      obtain ⟨hc, q7⟩ := ba hc
      obtain ⟨hc, q6⟩ := ba hc
      obtain ⟨hc, q5⟩ := ba hc
      obtain ⟨hc, q4⟩ := ba hc
      obtain ⟨hc, q3⟩ := ba hc
      obtain ⟨q1, q2⟩ := ba hc
      exact s_par3 cx sx hP (of_decide_eq_true q1) (of_decide_eq_true q2) (of_decide_eq_true q3) (of_decide_eq_false (nf q4)) (of_decide_eq_false (nf q5)) (of_decide_eq_false (nf q6)) q7 q8 q9 q10 q11 (of_decide_eq_true q12) rfl
    · cases h
  | .app i e, X, E, sc, Z, own', lp, st, cx, sx, hP, h => by
    unfold corrS at h
    split at h <;> try contradiction
    rename_i heq
    cases heq
    split at h
    · rename_i hc
      cases h
      obtain ⟨hc, h6⟩ := ba hc
      obtain ⟨hc, h5⟩ := ba hc
      obtain ⟨hc, h4⟩ := ba hc
      obtain ⟨hc, h3⟩ := ba hc
      obtain ⟨h1, h2⟩ := ba hc
      exact s_app cx sx (of_decide_eq_true h1) (of_decide_eq_true h2) h3 h4 h5 h6 rfl
    · cases h
  | .seti i e1 e2, X, E, sc, Z, own', lp, st, cx, sx, hP, h => by
    unfold corrS at h
    split at h <;> try contradiction
    rename_i heq
    cases heq
    split at h
    · rename_i hc
      cases h
      obtain ⟨hc, h5⟩ := ba hc
      obtain ⟨hc, h4⟩ := ba hc
      obtain ⟨hc, h3⟩ := ba hc
      obtain ⟨h1, h2⟩ := ba hc
      exact s_seti cx (of_decide_eq_true h1) h2 h3 h4 h5 rfl
    · cases h
  | .expr e, X, E, sc, Z, own', lp, st, cx, sx, hP, h => by
    unfold corrS at h
    split at h <;> try contradiction
    rename_i heq
    cases heq
    split at h
    · rename_i hc
      cases h
      obtain ⟨h1, h2⟩ := ba hc
      exact s_expr cx h1 h2 rfl
    · cases h
  | .ret e, X, E, sc, Z, own', lp, st, cx, sx, hP, h => by
    unfold corrS at h
    split at h <;> try contradiction
    rename_i heq
    cases heq
    split at h
    · rename_i hc
      exact s_ret cx hc
    · cases h
  | .retOwn i, X, E, sc, Z, own', lp, st, cx, sx, hP, h => by
    unfold corrS at h
    split at h <;> try contradiction
    rename_i heq
    cases heq
    split at h
    · rename_i hc
      obtain ⟨hc, h4⟩ := ba hc
      obtain ⟨hc, h3⟩ := ba hc
      obtain ⟨h1, h2⟩ := ba hc
      exact s_retOwn cx hP (of_decide_eq_true h2) (of_decide_eq_false (nf h3)) h4 h1
    · cases h
  | .ifs c a b, X, E, sc, Z, own', lp, st, cx, sx, hP, h => by
    unfold corrS at h
    split at h <;> try contradiction
    rename_i heq
    cases heq
    split at h
    · rename_i hc
      split at h
      · rename_i o1 o2 ha hb
        have pa := sSs xa Γ k par fr a cx sx hP ha
        have pb := sSs xa Γ k par fr b cx sx hP hb
        split at h
        · rename_i hj
          cases h
          refine s_if cx hc pa pb (.inr fun i => Iff.rfl) ?_
          rcases Bool.or_eq_true_iff.mp hj with hj | hj
          · exact .inl hj
          · exact .inr fun i => (sameM_ok hj i).symm
        · split at h
          · rename_i hj
            cases h
            exact s_if cx hc pa pb (.inl hj) (.inr fun i => Iff.rfl)
          · cases h
      · cases h
    · cases h
  | .whl c a, X, E, sc, Z, own', lp, st, cx, sx, hP, h => by
    unfold corrS at h
    split at h <;> try contradiction
    rename_i heq
    cases heq
    split at h
    · rename_i hc
      split at h
      · rename_i o1 ha
        split at h
        · rename_i hj
          cases h
          refine s_whl cx sx hc (sSs xa Γ k par fr a cx sx hP ha) ?_ rfl
          exact (Bool.or_eq_true_iff.mp hj).imp (fun h => h) sameM_ok
        · cases h
      · cases h
    · cases h
  | .for_ t it a, X, E, sc, Z, own', lp, st, cx, sx, hP, h => by
    unfold corrS at h
    split at h <;> try contradiction
    rename_i heq
    cases heq
    split at h
    · rename_i hc
      obtain ⟨hc, h4⟩ := ba hc
      obtain ⟨hc, h3⟩ := ba hc
      obtain ⟨h1, h2⟩ := ba hc
      split at h
      · rename_i o1 ha
        split at h
        · rename_i hj
          cases h
          refine s_for cx sx hP h1 h2 h3 h4 (sSs xa Γ k par fr a cx sx hP ha) ?_ rfl
          exact (Bool.or_eq_true_iff.mp hj).imp (fun h => h) sameM_ok
        · cases h
      · cases h
    · cases h
  | .pass, X, E, sc, Z, own', lp, st, cx, sx, hP, h => by
    unfold corrS at h
    split at h <;> try contradiction
    cases h
    exact s_pass rfl
  | .brk, X, E, sc, Z, own', lp, st, cx, sx, hP, h => by
    unfold corrS at h
    split at h <;> try contradiction
    split at h
    · rename_i hc
      exact s_brk hc
    · cases h
  | .cnt, X, E, sc, Z, own', lp, st, cx, sx, hP, h => by
    unfold corrS at h
    split at h <;> try contradiction
    split at h
    · rename_i hc
      exact s_cnt hc
    · cases h
  | .never, X, E, sc, Z, own', lp, st, cx, sx, hP, h => s_never
  | .frz i, X, E, sc, Z, own', lp, st, cx, sx, hP, h => by
    unfold corrS at h
    cases h
  | .deep i b, X, E, sc, Z, own', lp, st, cx, sx, hP, h => by
    unfold corrS at h
    cases h
  | .raise j e, X, E, sc, Z, own', lp, st, cx, sx, hP, h => by
    unfold corrS at h
    split at h <;> try contradiction
    rename_i heq
    cases heq
    split at h
    · rename_i hc
      cases h
      obtain ⟨hc, h5⟩ := ba hc
      obtain ⟨hc, h4⟩ := ba hc
      obtain ⟨hc, h3⟩ := ba hc
      obtain ⟨h1, h2⟩ := ba hc
      exact s_raise cx h1 h2 h3 (of_decide_eq_true h4) h5
    · cases h
  | .mark i j e, X, E, sc, Z, own', lp, st, cx, sx, hP, h => by
    unfold corrS at h
    split at h <;> try contradiction
    rename_i heq
    cases heq
    split at h
    · rename_i hc
      cases h
      obtain ⟨hc, q12⟩ := ba hc
      obtain ⟨hc, q11⟩ := ba hc
      obtain ⟨hc, q10⟩ := ba hc
      obtain ⟨hc, q9⟩ := ba hc
      obtain ⟨hc, q8⟩ := ba hc
      obtain ⟨hc, q7⟩ := ba hc
      obtain ⟨hc, q6⟩ := ba hc
      obtain ⟨hc, q5⟩ := ba hc
      obtain ⟨hc, q4⟩ := ba hc
      obtain ⟨hc, q3⟩ := ba hc
      obtain ⟨q1, q2⟩ := ba hc
      have e5 := of_decide_eq_true q5
      subst e5
      exact s_mark cx sx hP (List.isEmpty_iff.mp q1) (of_decide_eq_true q2) q3 q4 q6 q7 q8 (of_decide_eq_true q9) (of_decide_eq_false (nf q10)) q11 q12 rfl
    · cases h
theorem sSs (xa : Nat → Addr) (Γ : Cfg) (k : Nat) (par : List Nat) (fr : Bool) : (ss : ISs) → ∀ {X : Cx} {E : XK} {sc : Scope} {Z : Stt} {own' lp : List Nat} {sts : List Stmt}, CxOk X Z.W xa (fun _ => E) Γ k sc → SxOk X sc → (∀ p ∈ Z.P, p.1 ∈ par) → corrSs Γ sc par fr ss Z.own lp sts = some own' →
    PSs X sts (semSs xa E Z (CF Γ.T k) own' lp fr ss)
  | .nil, X, E, sc, Z, own', lp, sts, cx, sx, hP, h => by
    cases sts with
    | nil =>
      unfold corrSs at h
      cases h
      refine PSs.weak pss_nil fun D σ H h => ?_
      obtain ⟨S, env, R, fin⟩ := h
      unfold exs at fin
      exact fin _ _ _ R (Sub.refl _)
    | cons _ _ => unfold corrSs at h; cases h
  | .cons s ss, X, E, sc, Z, own', lp, sts, cx, sx, hP, h => by
    by_cases hfz : ∃ i, s = .frz i
    · obtain ⟨i, rfl⟩ := hfz
      unfold corrSs at h
      split at h
      · cases h
      · rename_i hi
        have hi' : i ∉ par := by simpa using hi
        refine PSs.weak (sSs xa Γ k par fr ss (Z := { Z with own := Z.own.filter (· ≠ i) }) cx sx hP h) fun D σ H q => ?_
        obtain ⟨S, env, R, fin⟩ := q
        obtain ⟨S', hs, R'⟩ := R.frz (i := i) fun p hp z => hi' (z ▸ hP p hp)
        have fin : FinS (Exs Z.W xa E Z) Z S own' lp fr (match ex (CF Γ.T k) (.frz i) env with
          | .next env1 => exs (CF Γ.T k) ss env1
          | r => r) D := fin
        have e : ex (CF Γ.T k) (.frz i) env = .next env := by unfold ex; rfl
        rw [e] at fin
        exact ⟨S', env, R', FinS.mono (Z := Z) fin hs⟩
    · by_cases hnv : s = .never
      · subst hnv
        refine PSs.weak pss_never fun D σ H q => ?_
        obtain ⟨S, env, R, fin⟩ := q
        have fin : FinS (Exs Z.W xa E Z) Z S own' lp fr (match ex (CF Γ.T k) .never env with
          | .next env1 => exs (CF Γ.T k) ss env1
          | r => r) D := fin
        have e : ex (CF Γ.T k) .never env = .bad := by unfold ex; rfl
        rw [e] at fin
        exact fin.elim
      · by_cases hdp : ∃ i b, s = .deep i b
        · obtain ⟨i, b, rfl⟩ := hdp
          cases sts with
          | nil =>
            exfalso
            unfold corrSs at h
            cases h
          | cons st0 sts =>
            unfold corrSs at h
            split at h
            · rename_i hc
              obtain ⟨h1, h2⟩ := ba hc
              unfold initC at h1
              split at h1
              · rename_i tg x p
                obtain ⟨h1, q4⟩ := ba h1
                obtain ⟨h1, q3⟩ := ba h1
                obtain ⟨q1, q2⟩ := ba h1
                have hpi : ∀ p ∈ Z.P, p.1 ≠ i := fun p hp z => of_decide_eq_false (nf (List.all_eq_true.mp q1 i (List.mem_singleton.mpr rfl))) (z ▸ hP p hp)
                have hrest := sSs xa Γ k par fr ss (Z := { Z with own := Z.own.filter (· ≠ i) }) cx sx hP h
                have hblk := sDsR xa Γ k par i b (Z := { Z with own := Z.own.filter (· ≠ i) }) cx sx hP h2 hrest
                rw [List.take_append_drop] at hblk
                refine PSs.weak (pss_cons (s_set (lp := lp) (fr := fr) (own' := [i] ++ Z.own) (t := .nm i) (f := true) cx sx hP q1 q2 q3 q4 rfl) hblk) fun D σ H q => ?_
                obtain ⟨S, env, R, fin⟩ := q
                refine ⟨S, env, R, ?_⟩
                have fin : FinS (Exs Z.W xa E Z) Z S own' lp fr (match ex (CF Γ.T k) (.deep i b) env with
                  | .next env1 => exs (CF Γ.T k) ss env1
                  | r => r) D := fin
                have e1 : ex (CF Γ.T k) (.deep i b) env = if i < env.length then (match exDs (CF Γ.T k) i b [] (env.set i none) with
                  | .next cs env1 => .next (env1.set i (some (lsts cs)))
                  | .exc k d => .exc k d
                  | .bad => .bad) else .bad := by unfold ex; rfl
                rw [e1] at fin
                by_cases hl : i < env.length
                · rw [if_pos hl] at fin
                  have e2 : ex (CF Γ.T k) (.set (.nm i) true (.lst .nil)) env = .next (env.set i (some (.lst []))) := by
                    unfold ex ev evs
                    simp only [Res.bind_ok]
                    rw [if_pos (by show 0 ≤ sizeLine; exact Nat.zero_le _)]
                    simp only [Res.sbind_ok]
                    have : (true && !isL (VI.D.lst [])) = false := rfl
                    rw [this]
                    unfold bindT
                    simp only [hl, if_true, Bool.false_eq_true, if_false]
                  show FinS _ _ _ _ _ _ (ex (CF Γ.T k) (.set (.nm i) true (.lst .nil)) env) _
                  rw [e2]
                  intro σ' H' S' R' hs
                  have X0 := relx_start (Z := Z) (i := i) R' hpi (by rw [getE_set, if_pos ⟨rfl, hl⟩])
                  rw [List.set_set] at X0
                  refine ⟨S', _, [], X0, ?_⟩
                  cases hx : exDs (CF Γ.T k) i b [] (env.set i none) with
                  | bad => rw [hx] at fin; exact fin.elim
                  | exc kk u => rw [hx] at fin; exact fin
                  | next cs env1 =>
                    rw [hx] at fin
                    intro σ2 H2 S2 X2 hs2
                    obtain ⟨S3, hs3, R3⟩ := relx_end (Z := { Z with own := Z.own.filter (· ≠ i) }) (by simp) X2
                    exact ⟨S3, _, R3, FinS.mono (Z := Z) fin ((hs.trans hs2).trans hs3)⟩
                · rw [if_neg hl] at fin
                  exact fin.elim
              · cases h1
            · cases h
        · cases sts with
        | nil =>
          exfalso
          unfold corrSs at h
          split at h <;> try contradiction
          · rename_i q; cases q; exact hfz ⟨_, rfl⟩
          · rename_i q; cases q; exact hnv rfl
        | cons st sts =>
          obtain ⟨o1, h1, h2⟩ : ∃ o1, corrS Γ sc par fr s Z.own lp st = some o1 ∧ corrSs Γ sc par fr ss o1 lp sts = some own' := by
            have h' : (match corrS Γ sc par fr s Z.own lp st with
              | some o1 => corrSs Γ sc par fr ss o1 lp sts
              | none => none) = some own' := by
              cases s <;> first | exact h | exact absurd ⟨_, rfl⟩ hfz | exact absurd rfl hnv | exact absurd ⟨_, _, rfl⟩ hdp
            cases q : corrS Γ sc par fr s Z.own lp st with
            | none => rw [q] at h'; cases h'
            | some o1 => rw [q] at h'; exact ⟨o1, rfl, h'⟩
          refine PSs.weak (pss_cons (sS xa Γ k par fr s cx sx hP h1) (sSs xa Γ k par fr ss (Z := { Z with own := o1 }) cx sx hP h2)) fun D σ H q => ?_
          obtain ⟨S, env, R, fin⟩ := q
          refine ⟨S, env, R, ?_⟩
          have fin : FinS (Exs Z.W xa E Z) Z S own' lp fr (match ex (CF Γ.T k) s env with
            | .next env1 => exs (CF Γ.T k) ss env1
            | r => r) D := fin
          cases hx : ex (CF Γ.T k) s env with
          | next env1 => rw [hx] at fin; exact fun σ' H' S' R' hs => ⟨S', env1, R', FinS.mono (Z := Z) fin hs⟩
          | ret d env1 => rw [hx] at fin; exact fin
          | brk env1 => rw [hx] at fin; exact fin
          | cnt env1 => rw [hx] at fin; exact fin
          | exc j d => rw [hx] at fin; exact fin
          | bad => rw [hx] at fin; exact fin
end
end VI
/-! VX3: what the head tells of the classes of exceptions. -/
namespace VI
open PySem PySem.Spec PySem.Calls PyProof.Rows L2
open He (ga ma eqO eqO_ok veBase)
def initFnB (P : Program) (K : PySem.W.Frag) (C f : Addr) : Bool := match K.lookup f with
  | some ⟨_, _, .func fd, _⟩ => decide (fd.name = ("__init__" : Str)) && isSelfV fd.params && (match fd.body with
    | .stmts b => initB b
    | _ => false) && initSc fd.scope && decide (fd.globals = mainGlobals) && decide (fd.builtins = builtinsNs) && (match fd.closure with
    | [(n, cc)] => decide (n = ("__class__" : Str)) && (match K.lookup cc with
      | some ⟨_, _, .cell (some (.ref c)), _⟩ => decide (c = C)
      | _ => false)
    | _ => false) && (match fd.defaults with
    | .ref T => (match K.lookup T with
      | some ⟨_, _, .seq its _, _⟩ => decide (its.size = 1)
      | _ => false)
    | _ => false) && (match fd.code with
    | .ref cda => PySem.W.codeIn K (.ref cda) fd.qualname && (match K.lookup cda with
      | some ⟨_, _, .fields vs, _⟩ => (match (vs[2]? : Option Value) with
        | some (.str file _) => (P.main.file : Str) == file
        | _ => false)
      | _ => false)
    | _ => false)
  | _ => false
def oexB (K : PySem.W.Frag) (C : Addr) : Bool := (match K.lookup C with
  | some ⟨.type t, _, .cls cd, sl⟩ => decide (t = "type") && (match cd.mro, sl.toList with
    | .ref C' :: bm, [_, _, _, _, some (.builtin n), _] => decide (C' = C) && decide (n = "ValueError.__new__") && !cd.hasDel && cd.hasDict && PySem.HandSPX.refsVE bm
    | _, _ => false)
  | _ => false) && eqO (PySem.W.findIn K (.ref C) "__setattr__") (some (some (.builtin "object.__setattr__"))) && decide (PySem.W.subIn K (.ref C) (.type "BaseException") = some true) && decide (PySem.W.typeIn K (.ref C) = some (.type "type")) && PySem.W.keepIn K (.ref C)
def xinB (P : Program) (K : PySem.W.Frag) (C f : Addr) : Bool := oexB K C && eqO (PySem.W.findIn K (.ref C) "__init__") (some (some (.ref f))) && decide (PySem.W.typeIn K (.ref f) = some (.type "function")) && eqO (PySem.W.findIn K (.ref C) "value") (some none) &&
  eqO (PySem.W.ks_superIn K C C "__init__") (some (some (.builtin "ValueError.__init__"))) && decide (PySem.W.subIn K (.ref C) (.type "ValueError") = some true) && eqO (PySem.W.nsIn K cStatics "thirdparty.any") (some none) && decide (PySem.W.mroIn K C (.ref C) = some true) &&
  PySem.W.excInitIn K C veBase "ValueError.__new__" && eqO (PySem.W.nsIn K mainGlobals "super") (some none) && initFnB P K C f && (P.main.scope.names.lookup ("super" : Str)).isNone
def ecB (K : PySem.W.Frag) (C : Addr) : Bool := eqO (PySem.W.findIn K (.ref C) "__getattribute__") (some (some (.builtin "BaseException.__getattribute__"))) && eqO (PySem.W.findIn K (.ref C) "__getattr__") (some none) && decide (PySem.W.subIn K (.ref C) (.type "BaseException") = some true) &&
  PySem.W.hasDictIn K C && eqO (PySem.W.findIn K (.ref C) "__class__") (some (some (.builtin "object.__class__"))) && eqO (PySem.W.specialIn K (.builtin "object.__class__") "__get__") (some (some (.builtin "getset_descriptor.__get__"))) &&
  decide (PySem.W.takesIn K (.builtin "object.__class__") = some true) && decide (PySem.W.mroIn K C (.type "object") = some true)
theorem ba2 {a b : Bool} (h : (a && b) = true) : a = true ∧ b = true := Bool.and_eq_true_iff.mp h
theorem ecB_ok {K : PySem.W.Frag} {C : Addr} (h : ecB K C = true) : ExcC K C := by
  unfold ecB at h
  simp only [Bool.and_eq_true, decide_eq_true_eq] at h
  obtain ⟨⟨⟨⟨⟨⟨⟨h1, h2⟩, h3⟩, h4⟩, h5⟩, h6⟩, h7⟩, h8⟩ := h
  exact ⟨eqO_ok h1, eqO_ok h2, h3, h4, eqO_ok h5, eqO_ok h6, h7, h8⟩
theorem oexB_ok {K : PySem.W.Frag} {C : Addr} (h : oexB K C = true) : OexC K C := by
  unfold oexB at h
  simp only [Bool.and_eq_true, decide_eq_true_eq] at h
  obtain ⟨⟨⟨⟨h1, h2⟩, h3⟩, h4⟩, h5⟩ := h
  refine ⟨?_, eqO_ok h2, h3, h4, h5⟩
  split at h1
  · rename_i t dd cd sl ho
    simp only [Bool.and_eq_true, decide_eq_true_eq] at h1
    obtain ⟨rfl, h1⟩ := h1
    split at h1
    · rename_i C' bm k0 k1 k2 k3 n k5 hm hs
      simp only [Bool.and_eq_true, decide_eq_true_eq, Bool.not_eq_true'] at h1
      obtain ⟨⟨⟨⟨rfl, rfl⟩, hdel⟩, hdict⟩, hr⟩ := h1
      obtain ⟨nm, bs, mro, ns, qn, hd, sn, sb, ab, col, del⟩ := cd
      dsimp only at hm hdel hdict
      subst hm hdel hdict
      have hsl : sl = #[k0, k1, k2, k3, some (.builtin "ValueError.__new__"), k5] := by
        cases sl
        simp at hs
        rw [hs]
      subst hsl
      exact ⟨nm, qn, ns, bs, bm, sn, sb, ab, col, dd, k0, k1, k2, k3, k5, ho, hr⟩
    · cases h1
  · cases h1
theorem xinB_ok {P : Program} {K : PySem.W.Frag} {C f : Addr} (h : xinB P K C f = true) : ∃ fd, XInit P K C f fd := by
  unfold xinB at h
  simp only [Bool.and_eq_true, decide_eq_true_eq, Option.isNone_iff_eq_none] at h
  obtain ⟨⟨⟨⟨⟨⟨⟨⟨⟨⟨⟨h1, h2⟩, h3⟩, h4⟩, h5⟩, h6⟩, h7⟩, h8⟩, h9⟩, h10⟩, h11⟩, h12⟩ := h
  unfold initFnB at h11
  split at h11
  · rename_i oc od fd osl ho
    simp only [Bool.and_eq_true, decide_eq_true_eq] at h11
    obtain ⟨⟨⟨⟨⟨⟨⟨⟨g1, g2⟩, g3⟩, g4⟩, g5⟩, g6⟩, g7⟩, g8⟩, g9⟩ := h11
    refine ⟨fd, oexB_ok h1, eqO_ok h2, h3, eqO_ok h4, eqO_ok h5, h6, eqO_ok h7, h8, h9, eqO_ok h10, ?_, by rw [h12]; rfl⟩
    obtain ⟨n1, n2, n3, n4, n5, n6, n7, n8, n9, n10, n11, n12, n13, n14, n15⟩ := fd
    dsimp only at g1 g2 g3 g4 g5 g6 g7 g8 g9
    subst g1 g5 g6
    split at g3
    · rename_i b
      split at g7
      · rename_i n cc
        simp only [Bool.and_eq_true, decide_eq_true_eq] at g7
        obtain ⟨rfl, g7⟩ := g7
        split at g7
        · rename_i cl cld c csl hcell
          have g7 := of_decide_eq_true g7
          subst g7
          split at g8
          · rename_i T
            split at g8
            · rename_i q1 q2 its q3 q4 hT
              have g8 := of_decide_eq_true g8
              split at g9
              · rename_i cda
                simp only [Bool.and_eq_true] at g9
                obtain ⟨g9, g10⟩ := g9
                split at g10
                · rename_i c1 c2 vs c3 hcode
                  split at g10
                  · rename_i file tf hvs
                    exact ⟨oc, od, osl, n2, n3, b, n5, T, n9, n10, n11, n12, cda, n14, cc, rfl, ho, g9, g2, g3, g4, ⟨c1, c2, vs, c3, file, tf, hcode, hvs, g10⟩, ⟨cl, cld, csl, hcell⟩, ⟨_, its, _, hT, rfl, g8⟩⟩
                  · cases g10
                · cases g10
              · cases g9
            · cases g8
          · cases g8
        · cases g7
      · cases g7
    · cases g3
  · cases h11
/-- all of the classes: xs their names, xb the name of the one that is caught -/
def clsB (P : Program) (xs : List Str) (xb : Str) (K : PySem.W.Frag) : Bool := decide xs.Nodup && (xs.all fun x => xinB P K (ga K x) (ma K (ga K x) "__init__") && eqO (PySem.W.nsIn K mainGlobals x) (some (some (.ref (ga K x)))) && ecB K (ga K x) && xfB K (ga K x) &&
    xs.all fun y => decide (PySem.W.kitOne K (.ref (ga K x)) (.ref (ga K y)) = some (decide (x = y)))) &&
  (decide (xb = ("" : Str)) || (eqO (PySem.W.nsIn K mainGlobals xb) (some (some (.ref (ga K xb)))) && xs.all fun x => decide (PySem.W.exmOne K (.ref (ga K x)) (.ref (ga K xb)) = some true)))
end VI
namespace VI
open PySem PySem.Spec PySem.Calls PyProof.Rows L2
open He (ga ma eqO eqO_ok veBase)
theorem clsB_ok {P : Program} {xs : List Str} {xb : Str} {K : PySem.W.Frag} {mg : Str → Option Value} {h : Heap} (KX : K.In h) (G : h.Ns mainGlobals mg) (c : clsB P xs xb K = true) :
    (∀ (j : Nat) (x : Str), xs[j]? = some x → (∃ f fd, XInit P K (ga K x) f fd) ∧ mg x = some (.ref (ga K x)) ∧ ExcC K (ga K x) ∧ XfC K (ga K x)) ∧
    (∀ (i j : Nat) (x y : Str), xs[i]? = some x → xs[j]? = some y → PySem.W.kitOne K (.ref (ga K x)) (.ref (ga K y)) = some (i == j)) ∧
    (xb ≠ "" → mg xb = some (.ref (ga K xb)) ∧ ∀ x ∈ xs, PySem.W.exmOne K (.ref (ga K x)) (.ref (ga K xb)) = some true) := by
  unfold clsB at c
  obtain ⟨c, c3⟩ := ba2 c
  obtain ⟨c1, c2⟩ := ba2 c
  have c1 := of_decide_eq_true c1
  refine ⟨fun j x hx => ?_, fun i j x y hx hy => ?_, fun hne => ?_⟩
  · have q := List.all_eq_true.mp c2 x (List.mem_of_getElem? hx)
    obtain ⟨q, _⟩ := ba2 q
    obtain ⟨q, q4⟩ := ba2 q
    obtain ⟨q, q3⟩ := ba2 q
    obtain ⟨q1, q2⟩ := ba2 q
    obtain ⟨fd, X⟩ := xinB_ok q1
    exact ⟨⟨_, fd, X⟩, PySem.W.mg_of KX G (eqO_ok q2), ecB_ok q3, xfB_ok q4⟩
  · have q := (ba2 (List.all_eq_true.mp c2 x (List.mem_of_getElem? hx))).2
    have q := of_decide_eq_true (List.all_eq_true.mp q y (List.mem_of_getElem? hy))
    rw [q]
    congr 1
    obtain ⟨h1, e1⟩ := List.getElem?_eq_some_iff.mp hx
    obtain ⟨h2, e2⟩ := List.getElem?_eq_some_iff.mp hy
    by_cases hij : i = j
    · subst hij
      rw [hx] at hy
      cases hy
      simp
    · have : x ≠ y := fun e => hij ((List.getElem_inj c1).mp (by rw [e1, e2, e]))
      simp [hij, this]
  · rcases Bool.or_eq_true_iff.mp c3 with q | q
    · exact absurd (of_decide_eq_true q) hne
    · obtain ⟨q1, q2⟩ := ba2 q
      exact ⟨PySem.W.mg_of KX G (eqO_ok q1), fun x hx => of_decide_eq_true (List.all_eq_true.mp q2 x hx)⟩
/-! ### the Hook -/
def asV (g : Addr → Option Obj) (n : Nat) : List Addr := cStatics :: He.asD g n
abbrev AlV : Type := He.AlD × Bool
def obsV (P : Program) (xs : List Str) (xb : Str) (fa : List He.Fa) (fn : List He.DefD) (K : PySem.W.Frag) : AlV := (He.obsD fa fn K, clsB P xs xb K)
def valVV (fn : List He.DefD) : AlV := (He.valD fn, true)
def SaysV (P : Program) (xs : List Str) (xb : Str) (fa : List He.Fa) (fn : List He.DefD) (K : PySem.W.Frag) : Prop := He.SaysD fa fn K ∧ clsB P xs xb K = true
def obsVG (P : Program) (xs : List Str) (xb : Str) (n : Nat) (fa : List He.Fa) (fn : List He.DefD) (g : Addr → Option Obj) : AlV := obsV P xs xb fa fn (He.frG g (asV g n))
def hookV (P : Program) (xs : List Str) (xb : Str) (n : Nat) (fa : List He.Fa) (fn : List He.DefD) : PySem.W.Hook where
  α := AlV
  obs := fun s => obsVG P xs xb n fa fn s.heap.get?
  val := fun _ => valVV fn
  says := fun _ h => ∃ K : PySem.W.Frag, K.In h ∧ SaysV P xs xb fa fn K
  of := fun _ _ e => ⟨_, He.frG_in, (Prod.mk.inj e).1, (Prod.mk.inj e).2⟩
  keeps := fun _ _ _ ⟨K, hK, c⟩ k => ⟨K, PySem.W.Frag.In.keeps hK k, c⟩
theorem obsVG_eq {P : Program} {xs : List Str} {xb : Str} {n : Nat} {fa : List He.Fa} {fn : List He.DefD} {g : Addr → Option Obj} {s : Shared} (h : ∀ a, g a = s.heap.get? a) : obsVG P xs xb n fa fn g = (hookV P xs xb n fa fn).obs s := by
  have e : g = s.heap.get? := funext h
  rw [e] <;> rfl
end VI
/-! VIj: defs, the table. -/
namespace VI
open PySem PySem.Spec PyProof.Rows L2

/-! ### the parameters at a body's entry -/
def ownIx : Nat → List Bool → List Nat
  | _, [] => []
  | i, true :: m => i :: ownIx (i + 1) m
  | i, false :: m => ownIx (i + 1) m
def argP : Nat → List Bool → List V → List (Nat × Addr)
  | i, true :: m, .ref a :: vs => (i, a) :: argP (i + 1) m vs
  | i, _ :: m, _ :: vs => argP (i + 1) m vs
  | _, _, _ => []
theorem ownIx_ge : ∀ {i : Nat} {m : List Bool} {j : Nat}, j ∈ ownIx i m → i ≤ j
  | _, [], _, h => by simp [ownIx] at h
  | i, true :: m, j, h => by
    unfold ownIx at h
    rcases List.mem_cons.mp h with h | h
    · omega
    · have := ownIx_ge h; omega
  | i, false :: m, j, h => by
    unfold ownIx at h
    have := ownIx_ge h
    omega
section
variable {W : Wd} {S H : Hp}
theorem argP_snd : ∀ {i : Nat} {m : List Bool} {vs : List V}, (argP i m vs).map (·.2) = ownAddrs m vs
  | _, [], _ => by unfold argP ownAddrs; rfl
  | i, true :: m, [] => by unfold argP ownAddrs; rfl
  | i, false :: m, [] => by unfold argP ownAddrs; rfl
  | i, true :: m, v :: vs => by cases v <;> (unfold argP ownAddrs; simp [argP_snd])
  | i, false :: m, v :: vs => by cases v <;> (unfold argP ownAddrs; simp [argP_snd])
theorem args_len : ∀ {m : List Bool} {ds : List D} {vs : List V}, ArgsOk W S H m ds vs → ds.length = vs.length
  | [], _, _, r => r.length
  | true :: m, d :: ds, v :: vs, r => by unfold ArgsOk at r; simp [args_len r.2]
  | false :: m, d :: ds, v :: vs, r => by unfold ArgsOk at r; simp [args_len r.2]
  | true :: m, [], _, r => by unfold ArgsOk at r; exact r.elim
  | false :: m, [], _, r => by unfold ArgsOk at r; exact r.elim
  | true :: m, d :: ds, [], r => by unfold ArgsOk at r; exact r.elim
  | false :: m, d :: ds, [], r => by unfold ArgsOk at r; exact r.elim
theorem args_get : ∀ {m : List Bool} {i j : Nat} {ds : List D} {vs : List V} {d : D}, ArgsOk W S H m ds vs → ds[j]? = some d →
    ∃ v, vs[j]? = some v ∧ (i + j ∈ ownIx i m → ownAt W S H d v ∧ ∃ a, v = .ref a ∧ (i + j, a) ∈ argP i m vs) ∧ (i + j ∉ ownIx i m → Rep W S d v)
  | [], i, j, ds, vs, d, r, e => by
    obtain ⟨v, h1, h2⟩ := Reps.get r e
    exact ⟨v, h1, fun z => by simp [ownIx] at z, fun _ => h2⟩
  | true :: m, i, 0, d :: ds, v :: vs, _, r, e => by
    unfold ArgsOk at r
    simp at e
    subst e
    refine ⟨v, rfl, fun _ => ⟨r.1, ?_⟩, fun z => absurd (by unfold ownIx; simp) z⟩
    obtain ⟨a, es, ws, h1, rfl, _⟩ := r.1
    exact ⟨a, rfl, by unfold argP; simp⟩
  | false :: m, i, 0, d :: ds, v :: vs, _, r, e => by
    unfold ArgsOk at r
    simp at e
    subst e
    refine ⟨v, rfl, fun z => ?_, fun _ => r.1⟩
    unfold ownIx at z
    have := ownIx_ge z
    omega
  | true :: m, i, j + 1, d :: ds, v :: vs, d', r, e => by
    unfold ArgsOk at r
    rw [List.getElem?_cons_succ] at e
    obtain ⟨w, h1, h2, h3⟩ := args_get (i := i + 1) r.2 e
    have q : i + 1 + j = i + (j + 1) := by omega
    rw [q] at h2 h3
    refine ⟨w, by rw [List.getElem?_cons_succ]; exact h1, fun z => ?_, fun z => h3 fun w => z (by unfold ownIx; exact List.mem_cons_of_mem _ w)⟩
    unfold ownIx at z
    rcases List.mem_cons.mp z with z | z
    · omega
    · obtain ⟨q1, a, q2, q3⟩ := h2 z
      obtain ⟨b, _, _, _, rfl, _⟩ := r.1
      exact ⟨q1, a, q2, by unfold argP; exact List.mem_cons_of_mem _ q3⟩
  | false :: m, i, j + 1, d :: ds, v :: vs, d', r, e => by
    unfold ArgsOk at r
    rw [List.getElem?_cons_succ] at e
    obtain ⟨w, h1, h2, h3⟩ := args_get (i := i + 1) r.2 e
    have q : i + 1 + j = i + (j + 1) := by omega
    rw [q] at h2 h3
    refine ⟨w, by rw [List.getElem?_cons_succ]; exact h1, fun z => ?_, fun z => h3 fun w => z (by unfold ownIx; exact w)⟩
    unfold ownIx at z
    obtain ⟨q1, a, q2, q3⟩ := h2 z
    exact ⟨q1, a, q2, by cases v <;> (unfold argP; exact q3)⟩
  | true :: m, _, _, [], _, _, r, _ => by unfold ArgsOk at r; exact r.elim
  | false :: m, _, _, [], _, _, r, _ => by unfold ArgsOk at r; exact r.elim
  | true :: m, _, _, d :: ds, [], _, r, _ => by unfold ArgsOk at r; exact r.elim
  | false :: m, _, _, d :: ds, [], _, r, _ => by unfold ArgsOk at r; exact r.elim
theorem argP_get : ∀ {m : List Bool} {i : Nat} {ds : List D} {vs : List V} {p : Nat × Addr}, ArgsOk W S H m ds vs → p ∈ argP i m vs → ∃ j, p.1 = i + j ∧ vs[j]? = some (.ref p.2) ∧ p.1 ∈ ownIx i m ∧ j < ds.length
  | [], i, _, vs, _, _, h => by unfold argP at h; simp at h
  | true :: m, i, d :: ds, v :: vs, p, r, h => by
    unfold ArgsOk at r
    obtain ⟨⟨b, _, _, _, rfl, _⟩, r⟩ := r
    unfold argP at h
    rcases List.mem_cons.mp h with rfl | h
    · exact ⟨0, rfl, rfl, by unfold ownIx; simp, by simp⟩
    · obtain ⟨j, h1, h2, h3, h4⟩ := argP_get r h
      exact ⟨j + 1, by omega, by rw [List.getElem?_cons_succ]; exact h2, by unfold ownIx; exact List.mem_cons_of_mem _ h3, by simp; omega⟩
  | false :: m, i, d :: ds, v :: vs, p, r, h => by
    unfold ArgsOk at r
    have h : p ∈ argP (i + 1) m vs := by cases v <;> (unfold argP at h; exact h)
    obtain ⟨j, h1, h2, h3, h4⟩ := argP_get r.2 h
    exact ⟨j + 1, by omega, by rw [List.getElem?_cons_succ]; exact h2, by unfold ownIx; exact h3, by simp; omega⟩
  | true :: m, _, [], _, _, r, _ => by unfold ArgsOk at r; exact r.elim
  | false :: m, _, [], _, _, r, _ => by unfold ArgsOk at r; exact r.elim
  | true :: m, _, d :: ds, [], _, r, _ => by unfold ArgsOk at r; exact r.elim
  | false :: m, _, d :: ds, [], _, r, _ => by unfold ArgsOk at r; exact r.elim
theorem nodup_inj {α β : Type} {f : α → β} : ∀ {l : List α} {x y : α}, (l.map f).Nodup → x ∈ l → y ∈ l → f x = f y → x = y
  | [], _, _, _, h, _, _ => by simp at h
  | a :: l, x, y, nd, hx, hy, e => by
    rw [List.map_cons, List.nodup_cons] at nd
    rcases List.mem_cons.mp hx with h1 | h1 <;> rcases List.mem_cons.mp hy with h2 | h2
    · rw [h1, h2]
    · subst h1; exact absurd (List.mem_map.mpr ⟨y, h2, e.symm⟩) nd.1
    · subst h2; exact absurd (List.mem_map.mpr ⟨x, h1, e⟩) nd.1
    · exact nodup_inj nd.2 h1 h2 e
/-- the state at a body's entry -/
theorem rel_start {N : List Str} {m : List Bool} {ds : List D} {vs : List V} (sub : Sub S H) (sz : SzH H) (r : ArgsOk W S H m ds vs) (nd : (ownAddrs m vs).Nodup) :
    Rel ⟨W, ownIx 0 m, S, H, argP 0 m vs⟩ (L2.start N vs) S H (ds.map some ++ List.replicate (N.length - ds.length) none) := by
  have hl := args_len r
  have env_get : ∀ {i : Nat} {d : D}, getE (ds.map some ++ List.replicate (N.length - ds.length) none) i = some d → ds[i]? = some d := fun {i d} e => by
    unfold getE at e
    by_cases hi : i < ds.length
    · rw [List.getElem?_append_left (by simpa using hi), List.getElem?_map] at e
      cases q : ds[i]? with
      | none => rw [q] at e; cases e
      | some d' => rw [q] at e; exact e
    · rw [List.getElem?_append_right (by simpa using hi), List.getElem?_replicate] at e
      split at e <;> cases e
  have get_env : ∀ {i : Nat} {d : D}, ds[i]? = some d → getE (ds.map some ++ List.replicate (N.length - ds.length) none) i = some d := fun {i d} e => by
    unfold getE
    have hi : i < ds.length := (List.getElem?_eq_some_iff.mp e).1
    rw [List.getElem?_append_left (by simpa using hi), List.getElem?_map, e]
    rfl
  have st_get : ∀ {i : Nat} {v : V}, vs[i]? = some v → (L2.start N vs)[i]? = some (some v) := fun {i v} e => by
    unfold L2.start
    have hi : i < vs.length := (List.getElem?_eq_some_iff.mp e).1
    rw [List.getElem?_append_left (by simpa using hi), List.getElem?_map, e]
    rfl
  refine ⟨sub, Sub.refl S, fun _ _ e _ => e, fun _ _ _ => rfl, fun i d e => ?_, fun i j a hi hj e1 e2 e3 e4 => ?_, fun p hp => ?_, by unfold L2.start; simp [hl], sz⟩
  · obtain ⟨v, h1, h2, h3⟩ := args_get (i := 0) r (env_get e)
    rw [Nat.zero_add] at h2 h3
    refine ⟨v, st_get h1, fun z => ?_, h3⟩
    obtain ⟨⟨a, es, ws, q1, q2, q3, q4, q5⟩, b, q6, q7⟩ := h2 z
    rw [q2] at q6
    cases q6
    exact ⟨a, es, ws, q1, q2, q3, q4, q5, .inr ⟨_, q7, rfl⟩⟩
  · have key : ∀ k, k ∈ ownIx 0 m → getE (ds.map some ++ List.replicate (N.length - ds.length) none) k ≠ none → (L2.start N vs)[k]? = some (some (.ref a)) → (k, a) ∈ argP 0 m vs := fun k hk e e' => by
      cases q : getE (ds.map some ++ List.replicate (N.length - ds.length) none) k with
      | none => exact absurd q e
      | some d =>
        obtain ⟨v, h1, h2, h3⟩ := args_get (i := 0) r (env_get q)
        rw [Nat.zero_add] at h2
        obtain ⟨_, b, rfl, q7⟩ := h2 hk
        rw [st_get h1] at e'
        cases e'
        exact q7
    have := nodup_inj (f := fun p : Nat × Addr => p.2) (by rw [argP_snd]; exact nd) (key i hi e1 e3) (key j hj e2 e4) rfl
    exact congrArg (·.1) this
  · obtain ⟨j, h1, h2, h3, h4⟩ := argP_get r hp
    rw [Nat.zero_add] at h1
    refine ⟨h3, by rw [h1]; exact st_get h2, ?_⟩
    rw [h1, get_env (List.getElem?_eq_getElem h4)]
    exact fun q => by cases q
/-- what the lists of its own hold at the end -/
theorem outs_end {H0 S' H' : Hp} {W : Wd} {S : Hp} : ∀ {m : List Bool} {i : Nat} {ds : List D} {vs : List V} {env env' : Env} {outs : List D}, ArgsOk W S H0 m ds vs → (∀ j, env[j]? = env'[i + j]?) → outsOf m env = some outs →
    (∀ p ∈ argP i m vs, ∃ d, getE env' p.1 = some d ∧ ownAt W S' H' d (.ref p.2)) → OutsOk W S' H' m outs vs
  | [], i, _, vs, env, env', outs, r, he, e, h => by
    have : some [] = some outs := by unfold outsOf at e; exact e
    cases this
    rfl
  | true :: m, i, d :: ds, v :: vs, env, env', outs, r, he, e, h => by
    unfold ArgsOk at r
    obtain ⟨⟨b, _, _, _, rfl, _⟩, r⟩ := r
    cases env with
    | nil => unfold outsOf at e; cases e
    | cons o env =>
      cases o with
      | none => unfold outsOf at e; cases e
      | some d1 =>
        unfold outsOf at e
        cases q : outsOf m env with
        | none => rw [q] at e; cases e
        | some outs' =>
          rw [q] at e
          cases e
          obtain ⟨d2, h1, h2⟩ := h (i, b) (by unfold argP; simp)
          have h0 := he 0
          have h0' : env'[i]? = some (some d1) := h0.symm
          have e3 : getE env' i = some d1 := by unfold getE; rw [h0']; rfl
          rw [e3] at h1
          cases h1
          exact ⟨h2, outs_end (i := i + 1) r (fun j => by have := he (j + 1); rw [List.getElem?_cons_succ] at this; rw [this]; congr 1; omega) q fun p hp => h p (by unfold argP; exact List.mem_cons_of_mem _ hp)⟩
  | false :: m, i, d :: ds, v :: vs, env, env', outs, r, he, e, h => by
    unfold ArgsOk at r
    cases env with
    | nil => unfold outsOf at e; cases e
    | cons o env =>
      unfold outsOf at e
      show OutsOk W S' H' m outs vs
      exact outs_end (i := i + 1) r.2 (fun j => by have := he (j + 1); rw [List.getElem?_cons_succ] at this; rw [this]; congr 1; omega) e fun p hp => h p (by cases v <;> (unfold argP; exact hp))
  | true :: m, _, [], _, _, _, _, r, _, _, _ => by unfold ArgsOk at r; exact r.elim
  | false :: m, _, [], _, _, _, _, r, _, _, _ => by unfold ArgsOk at r; exact r.elim
  | true :: m, _, d :: ds, [], _, _, _, r, _, _, _ => by unfold ArgsOk at r; exact r.elim
  | false :: m, _, d :: ds, [], _, _, _, r, _, _, _ => by unfold ArgsOk at r; exact r.elim
end

/-! ### a def -/
theorem cf_succ {T : List Fn} {k g : Nat} {ds : List D} : CF T (k + 1) g ds = match T[g]? with
  | some f => runF (CF T k) f ds
  | none => .bad := rfl
/-- a def of the table: where it stands, its names (the parameters first), its form in the small language -/
structure Dfn where
  d : He.DefD
  N : List Str
  f : Fn
def isFun : ScopeKind → Bool
  | .function => true
  | _ => false
def isFree : NameKind → Bool
  | .free => true
  | _ => false
def isLC : Option NameKind → Bool
  | some .local => true
  | some .cell => true
  | _ => false
def bodyC (T : List Fn) (kb : List (Nat × Nat × List Str × List Nat)) (ci : List (Str × Int)) (cs : List (Str × Str)) (xs : List Str) (xb : Str) (x : Dfn) : Bool := (corrSs ⟨x.N, T, kb, ci, cs, xs, xb⟩ x.d.scope (ownIx 0 x.f.msk) x.f.fr x.f.body (ownIx 0 x.f.msk) (ownIx 0 x.f.msk) x.d.body).isSome
def scopeC (x : Dfn) : Bool := isFun x.d.scope.kind && !x.d.scope.isCoroutine && !x.d.scope.isGenerator && decide x.N.Nodup && decide (x.N.length = x.f.nn) && decide (x.f.np ≤ x.f.nn) && ((x.N.take x.f.np).all fun y => isLC (x.d.scope.names.lookup y)) && (x.d.scope.names.all fun y => !isFree y.2)
theorem scope_ok {x : Dfn} (h : scopeC x = true) : FnScope x.N (x.N.take x.f.np) x.d.scope ∧ x.N.length = x.f.nn ∧ (x.N.take x.f.np).length = x.f.np := by
  obtain ⟨h, h8⟩ := ba h
  obtain ⟨h, h7⟩ := ba h
  obtain ⟨h, h6⟩ := ba h
  obtain ⟨h, h5⟩ := ba h
  obtain ⟨h, h4⟩ := ba h
  obtain ⟨h, h3⟩ := ba h
  obtain ⟨h1, h2⟩ := ba h
  have h5 := of_decide_eq_true h5
  have h6 := of_decide_eq_true h6
  have hl : (x.N.take x.f.np).length = x.f.np := by rw [List.length_take]; omega
  refine ⟨⟨?_, nf h2, nf h3, of_decide_eq_true h4, by rw [hl], fun y hy => ?_, fun y hy e => ?_⟩, h5, hl⟩
  · cases q : x.d.scope.kind <;> rw [q] at h1 <;> first | rfl | (cases h1)
  · have q := List.all_eq_true.mp h7 y hy
    unfold isLC at q
    split at q
    · rename_i e; exact .inl e
    · rename_i e; exact .inr e
    · cases q
  · have q := List.all_eq_true.mp h8 y hy
    rw [e] at q
    cases q
section
variable {P : Program} {w : World} {K : PySem.W.Frag} {mg : Str → Option Value} {base : Heap}
/-- what stands of a def of the table behind the top -/
structure DefAt (K : PySem.W.Frag) (mg : Str → Option Value) (kb : List (Nat × Nat × List Str × List Nat)) (fa : Nat → Addr) (g : Nat) (x : Dfn) (fd : FuncData) : Prop where
  fn : FunD K x.d.name x.d.qual x.d.params x.d.body x.d.scope [] [] (fa g) fd
  glo : mg x.f.name = some (.ref (fa g))
  bind : Binds K fd (x.N.take x.f.np) []
  kws : ∀ n ks perm, (g, n, ks, perm) ∈ kb → KB K fd (x.N.take x.f.np) n ks perm
def wdOf (K : PySem.W.Frag) (fa xa : Nat → Addr) (xs : List Str) (T : List Fn) : Wd := { K := K, fa := fa, xc := xa, xo := fun j => j < xs.length, pl := fun g => match T[g]? with
  | some f => f.msk.isEmpty
  | none => false }
theorem tab_ok {X : List Dfn} {T : List Fn} {kb : List (Nat × Nat × List Str × List Nat)} {ci : List (Str × Int)} {cs : List (Str × Str)} {xs : List Str} {xb : Str} {fa xa : Nat → Addr} (hT : X.map (·.f) = T) (hs : X.all scopeC = true) (hb : X.all (bodyC T kb ci cs xs xb) = true) (hbl : ∀ y ∈ blNames, mg y = none) (hci : ∀ y z, (y, z) ∈ ci → ∃ t, mg y = some (.int z t)) (hcs : ∀ y z, (y, z) ∈ cs → ∃ t, mg y = some (.str z t)) (hd : ∀ g x, X[g]? = some x → ∃ fd, DefAt K mg kb fa g x fd) (hxs : ∀ j x, xs[j]? = some x → XAt P K mg (xa j) x) (hxk : ∀ i j, i < xs.length → j < xs.length → PySem.W.kitOne K (.ref (xa i)) (.ref (xa j)) = some (i == j)) (hxb : xb ≠ "" → ∃ c, mg xb = some (.ref c) ∧ ∀ j, j < xs.length → PySem.W.exmOne K (.ref (xa j)) (.ref c) = some true) :
    ∀ (k g : Nat) (x : Dfn), X[g]? = some x → ∃ fd, DefAt K mg kb fa g x fd ∧ FnG P w K mg base (L2.CX P w) (k + 2) (fa g) fd (x.N.take x.f.np) (spD (wdOf K fa xa xs T) xa x.f (CF T k g))
  | 0, g, x, hx => by
    obtain ⟨fd, hD⟩ := hd g x hx
    refine ⟨fd, hD, ⟨fun vs H Q E h => ?_, fun A outer s H args us vs Q E _ _ _ _ _ h => ?_⟩⟩
    · obtain ⟨_, S, ds, _, _, _, _, h⟩ := h
      exact h.elim
    · obtain ⟨_, S, ds, _, _, _, _, h⟩ := h
      exact h.elim
  | k + 1, g, x, hx => by
    obtain ⟨fd, hD⟩ := hd g x hx
    have ih := tab_ok (xa := xa) hT hs hb hbl hci hcs hd hxs hxk hxb k
    have hmem := List.mem_of_getElem? hx
    obtain ⟨fs, hN, hnp⟩ := scope_ok (List.all_eq_true.mp hs x hmem)
    have hbody := List.all_eq_true.mp hb x hmem
    have hTg : T[g]? = some x.f := by rw [← hT, List.getElem?_map, hx]; rfl
    obtain ⟨own', hown⟩ := Option.isSome_iff_exists.mp (show (corrSs ⟨x.N, T, kb, ci, cs, xs, xb⟩ x.d.scope (ownIx 0 x.f.msk) x.f.fr x.f.body (ownIx 0 x.f.msk) (ownIx 0 x.f.msk) x.d.body).isSome = true from hbody)
    refine ⟨fd, hD, FnG.of hD.fn (k := k + 2) fs (fun vs H Q E h => by rw [hnp]; exact h.1) fun cdv A outer s H vs Q E hr hgd h => ?_⟩
    obtain ⟨hvs, S, ds, sub, sz, ao, nd, h⟩ := h
    have hR := rel_start (N := x.N) sub sz ao nd
    have hlen := args_len ao
    obtain ⟨Z, hZ⟩ : ∃ Z : Stt, Z = ⟨wdOf K fa xa xs T, ownIx 0 x.f.msk, S, H, argP 0 x.f.msk vs⟩ := ⟨_, rfl⟩
    have fnAt : ∀ g f, T[g]? = some f → FnAt (cxOf (L2.CX P w) P w K mg base x.N x.d.qual x.d.scope (fa g) cdv A outer s H E) (wdOf K fa xa xs T) xa ⟨x.N, T, kb, ci, cs, xs, xb⟩ k g f := fun g f hf => by
      rw [← hT, List.getElem?_map] at hf
      cases q : X[g]? with
      | none => rw [q] at hf; cases hf
      | some y =>
        rw [q] at hf
        cases hf
        obtain ⟨fd2, hD2, F2⟩ := ih g y q
        obtain ⟨_, _, hnp2⟩ := scope_ok (List.all_eq_true.mp hs y (List.mem_of_getElem? q))
        exact ⟨fd2, y.N.take y.f.np, F2, hD2.glo, hD2.fn.kp, hD2.bind, hnp2, hD2.kws⟩
    have cx : CxOk (cxOf (L2.CX P w) P w K mg base x.N x.d.qual x.d.scope (fa g) cdv A outer s H E) Z.W xa (fun _ => E) ⟨x.N, T, kb, ci, cs, xs, xb⟩ k x.d.scope := by
      subst hZ
      refine ⟨rfl, fs.nd, rfl, fun y hy => ?_, fun y hy => ?_, fun y hy => ?_, fun y hy => ?_, rfl, fnAt, fun g hg => ?_, fun g f hf hm => ?_, hr, takes_of rfl rfl rfl rfl, rfl, fun _ => Iff.rfl, hxs, hxk, hxb, hbl, hci, hcs, hgd⟩
      · unfold visC at hy
        split at hy
        · rename_i e; exact .inl e
        · rename_i e; exact .inr (.inl e)
        · rename_i e; exact .inr (.inr e)
        · cases hy
      · refine ⟨?_, .inl rfl⟩
        unfold locC at hy
        split at hy
        · rename_i e; exact .inl e
        · rename_i e; exact .inr e
        · cases hy
      · unfold cfC at hy
        split at hy
        · rename_i e; exact .inl e
        · rename_i e; exact .inr e
        · cases hy
      · unfold glC at hy
        split at hy
        · rename_i e; exact e
        · cases hy
      · have hg : (match T[g]? with
          | some f => f.msk.isEmpty
          | none => false) = true := hg
        split at hg
        · rename_i f hf
          exact ⟨f, hf, List.isEmpty_iff.mp hg⟩
        · cases hg
      · show (match T[g]? with
          | some f => f.msk.isEmpty
          | none => false) = true
        rw [hf]
        show f.msk.isEmpty = true
        rw [hm]
        rfl
    have sx : SxOk (cxOf (L2.CX P w) P w K mg base x.N x.d.qual x.d.scope (fa g) cdv A outer s H E) x.d.scope := ⟨rfl, fs.kind, passes_of rfl, rfl, rfl, rfl⟩
    have hP : ∀ p ∈ Z.P, p.1 ∈ ownIx 0 x.f.msk := fun p hp => by
      subst hZ
      obtain ⟨j, _, _, h3, _⟩ := argP_get ao hp
      exact h3
    refine ⟨_, sSs xa ⟨x.N, T, kb, ci, cs, xs, xb⟩ k (ownIx 0 x.f.msk) x.f.fr x.f.body (Z := Z) cx sx hP (lp := ownIx 0 x.f.msk) (own' := own') (by subst hZ; exact hown), S, _, by subst hZ; exact hR, ?_⟩
    subst hZ
    have hcf : CF T (k + 1) g ds = runF (CF T k) x.f ds := by
      rw [cf_succ, hTg]
    rw [hcf] at h
    unfold runF at h
    have hnd : ds.length = x.f.np := by omega
    rw [if_pos hnd] at h
    have hnn : x.f.nn - x.f.np = x.N.length - ds.length := by omega
    rw [hnn] at h
    have P2 : ∀ {own2 : List Nat} {σ' : L2.St} {S' H' : Hp} {env' : Env} {outs : List D}, Rel ⟨wdOf K fa xa xs T, own2, S, H, argP 0 x.f.msk vs⟩ σ' S' H' env' → outsOf x.f.msk env' = some outs → OutsOk (wdOf K fa xa xs T) S' H' x.f.msk outs vs := fun {own2 σ' S' H' env' outs} R e => by
      refine outs_end (i := 0) ao (fun j => by rw [Nat.zero_add]) e fun p hp => ?_
      obtain ⟨y1, y2, y3⟩ := R.pa p hp
      cases q : getE env' p.1 with
      | none => exact absurd q y3
      | some d =>
        obtain ⟨a, es, ws, z1, z2, z3, z4, z5, _⟩ := R.owned y1 q
        rw [y2] at z2
        cases z2
        exact ⟨d, rfl, p.2, es, ws, z1, rfl, z3, z4, z5⟩
    have P3 : ∀ {own2 : List Nat} {σ' : L2.St} {S' H' : Hp} {env' : Env}, Rel ⟨wdOf K fa xa xs T, own2, S, H, argP 0 x.f.msk vs⟩ σ' S' H' env' → ∀ b o, H b = some o → b ∉ ownAddrs x.f.msk vs → H' b = some o := fun {own2 σ' S' H' env'} R b o e hb => R.fr b o e fun p hp z => hb (by rw [← argP_snd (i := 0)]; exact List.mem_map.mpr ⟨p, hp, z⟩)
    cases hx2 : exs (CF T k) x.f.body (ds.map some ++ List.replicate (x.N.length - ds.length) none) with
    | next env' =>
      rw [hx2] at h
      simp only at h
      cases hfr : x.f.fr with
      | true => rw [hfr] at h; exact h.elim
      | false =>
        rw [hfr, if_neg (by simp)] at h
        cases ho : outsOf x.f.msk env' with
        | none => rw [ho] at h; exact h.elim
        | some outs =>
          rw [ho] at h
          exact fun σ' H' S' R hs' => h .non S' H' ⟨hs', R.sub, P3 R, R.gr, R.sz, P2 R ho, fun q => (by rw [hfr] at q; cases q), fun _ => rep_non.mpr rfl⟩
    | ret d env' =>
      rw [hx2] at h
      simp only at h
      by_cases hbad : (x.f.fr && !isL d) = true
      · rw [if_pos hbad] at h; exact h.elim
      · rw [if_neg hbad] at h
        cases ho : outsOf x.f.msk env' with
        | none => rw [ho] at h; exact h.elim
        | some outs =>
          rw [ho] at h
          refine ⟨fun hfr => by cases q : isL d <;> simp_all, fun own2 v σ' H' S' R hs' rv => h v S' H' ⟨hs', R.sub, P3 R, R.gr, R.sz, P2 R ho, fun hfr => ?_, rv.2⟩⟩
          obtain ⟨p, es, ws, q1, q2, q3, q4, q5, q6⟩ := rv.1 hfr
          exact ⟨p, es, ws, q1, q2, q6, q3, q4, q5⟩
    | brk env' => rw [hx2] at h; exact h.elim
    | cnt env' => rw [hx2] at h; exact h.elim
    | exc j d =>
      rw [hx2] at h
      show ExcOk (wdOf K fa xa xs T) xa E S H ((argP 0 x.f.msk vs).map (·.2)) j d
      rw [argP_snd]
      exact h
    | bad => rw [hx2] at h; exact h.elim
/-! ### arguments -/
theorem kb_of {x : Dfn} {fd : FuncData} {f : Addr} {n : Nat} {ks : List Str} {perm : List Nat} (F : FunD K x.d.name x.d.qual x.d.params x.d.body x.d.scope [] [] f fd)
    (h : ∀ (kV doc pm : Value) (an : Option Addr) (cdv ct : Value) (us ws : List Value), us.length = n → ws.length = ks.length → ∃ bs, permL perm (us ++ ws) = some bs ∧ bindArgs (PySem.W.fnOf x.d.name x.d.qual x.d.params x.d.body x.d.scope .none kV doc pm an cdv ct) ⟨us, ks.zip ws⟩ = pure ((x.N.take x.f.np).zip bs)) :
    KB K fd (x.N.take x.f.np) n ks perm := by
  obtain ⟨oc, od, dV, kV, doc, pm, an, cdv, ct, osl, rfl, lk, hcd, hD, hK⟩ := F.ex
  rcases hD with ⟨_, rfl⟩ | ⟨e, _⟩
  · refine ⟨fun s us ws _ h1 h2 => ?_⟩
    obtain ⟨bs, e1, e2⟩ := h kV doc pm an cdv ct us ws h1 h2
    exact ⟨bs, e1, .of_eq e2⟩
  · exact absurd rfl e
/-- the law -/
theorem law_sp {T : List Fn} {xs : List Str} {fa xa : Nat → Addr} {f : Fn} {k g n : Nat} {H : Hp} {a : Addr} {ns : List Int} (hn2 : n ≤ sizeLine) (hnp : f.np = 1) (hm : f.msk = []) (hfr : f.fr = false) (hl : ns.length ≤ n) (hO : Only H) (hS : SqL K H a (ns.map V.int)) (h : CF T k g [.scr ns] = .ret (.bl true) []) :
    spD (wdOf K fa xa xs T) xa f (CF T k g) [.ref a] H (fun v _ => v = .bl true) fun _ _ _ => False := by
  refine ⟨hnp.symm, H, [.scr ns], Sub.refl H, fun b o e => ?_, ?_, ?_, ?_⟩
  · rcases hO b with q | ⟨u, xs, q⟩
    · rw [q] at e; cases e
    · rw [q] at e; cases e; trivial
  · rw [hm]
    exact reps_cons.mpr ⟨.ref a, [], rfl, rep_scr.mpr ⟨a, rfl, hS⟩, reps_nil.mpr rfl⟩
  · rw [hm]
    exact List.nodup_nil
  · rw [h]
    intro v S' H' ro
    obtain ⟨_, _, _, _, _, _, _, r⟩ := ro
    exact rep_bl.mp (r hfr)
end
def plainP (p : Arguments) (ps : List Str) : Bool := p.posonlyargs.isEmpty && p.kwonlyargs.isEmpty && p.vararg.isNone && p.kwarg.isNone && decide (p.args.map (·.arg) = ps)
theorem zip_look : ∀ {ps : List Str} {us : List Value} {n : Str}, us.length = ps.length → n ∈ ps → ∃ u, (ps.zip us).lookup n = some u
  | [], _, _, _, h => by simp at h
  | p :: ps, [], _, hl, _ => by simp at hl
  | p :: ps, u :: us, n, hl, h => by
    rw [List.zip_cons_cons, List.lookup_cons]
    by_cases e : n = p
    · subst e; exact ⟨u, by simp⟩
    · have : (n == p) = false := by simpa using e
      rw [this]
      exact zip_look (by simpa using hl) (by simpa [e] using h)
theorem fm_congr {α β : Type} {f g : α → Option β} : ∀ {l : List α}, (∀ x ∈ l, f x = g x) → l.filterMap f = l.filterMap g
  | [], _ => rfl
  | a :: l, h => by
    rw [List.filterMap_cons, List.filterMap_cons, h a (List.mem_cons_self ..), fm_congr fun x hx => h x (List.mem_cons_of_mem _ hx)]
theorem zip_map : ∀ {ps : List Str} {us : List Value}, us.length = ps.length → ps.Nodup → (ps.filterMap fun n => ((ps.zip us).lookup n).map fun u => (n, u)) = ps.zip us
  | [], us, _, _ => by simp
  | p :: ps, [], hl, _ => by simp at hl
  | p :: ps, u :: us, hl, nd => by
    rw [List.nodup_cons] at nd
    rw [List.zip_cons_cons, List.filterMap_cons]
    have e1 : ((p, u) :: ps.zip us).lookup p = some u := by rw [List.lookup_cons]; simp
    rw [e1]
    simp only [Option.map_some]
    congr 1
    refine Eq.trans ?_ (zip_map (ps := ps) (us := us) (by simpa using hl) nd.2)
    refine fm_congr fun n hn => ?_
    have : (n == p) = false := by simp; rintro rfl; exact nd.1 hn
    rw [List.lookup_cons, this]
theorem bind_plain {x qual : Str} {params : Arguments} {body : List Stmt} {scope : Scope} {kV doc pm : Value} {an : Option Addr} {cdv ct : Value} {ps : List Str} {us : List Value} (h : plainP params ps = true) (nd : ps.Nodup) (hl : us.length = ps.length) :
    bindArgs (PySem.W.fnOf x qual params body scope .none kV doc pm an cdv ct) ⟨us, []⟩ = pure (ps.zip us) := by
  unfold plainP at h
  obtain ⟨h, h5⟩ := ba h
  obtain ⟨h, h4⟩ := ba h
  obtain ⟨h, h3⟩ := ba h
  obtain ⟨h1, h2⟩ := ba h
  have h1 := List.isEmpty_iff.mp h1
  have h2 := List.isEmpty_iff.mp h2
  have h3 := Option.isNone_iff_eq_none.mp h3
  have h4 := Option.isNone_iff_eq_none.mp h4
  have h5 := of_decide_eq_true h5
  unfold bindArgs PySem.W.fnOf
  simp only [h1, h2, h3, h4, h5]
  have e0 : seqItems? Value.none = pure none := rfl
  simp only [List.forIn_nil, pure_bind, List.map_nil, List.nil_append, e0, List.append_nil]
  have e1 : (decide (us.length > ps.length) && (none : Option Arg).isNone) = false := by rw [hl]; simp
  rw [e1]
  have e2 : List.filter (fun n => (List.lookup n (ps.zip us)).isNone) (List.take (ps.length - (List.drop (((none : Option (Array Value)).getD #[]).toList.length - ps.length) ((none : Option (Array Value)).getD #[]).toList).length) ps) = [] := by
    refine List.filter_eq_nil_iff.mpr fun n hn => ?_
    obtain ⟨u, hu⟩ := zip_look hl (List.mem_of_mem_take hn)
    rw [hu]
    simp
  rw [e2]
  have e3 := zip_map hl nd
  have e4 : List.drop (((none : Option (Array Value)).getD #[]).toList.length - ps.length) ((none : Option (Array Value)).getD #[]).toList = [] := by simp
  rw [e4]
  simp only [List.zip_nil_right, List.forIn_nil, pure_bind, List.isEmpty_nil, Bool.not_true, Bool.false_eq_true, if_false]
  rw [e3]

/-! ### a law -/
def dC (x : Dfn) : Bool := decide (x.d.at_ = (x.f.name, none)) && x.d.dfl.isEmpty && x.d.kwd.isEmpty && plainP x.d.params (x.N.take x.f.np)
def faL (X : List Dfn) (ci : List (Str × Int)) (cs : List (Str × Str)) : List He.Fa := X.map (fun x => .glo x.f.name) ++ (blNames.map .free ++ (ci.map (fun p => .int p.1 p.2) ++ cs.map (fun p => .str p.1 p.2)))
def faOf (K : PySem.W.Frag) (X : List Dfn) (g : Nat) : Addr := match X[g]? with
  | some x => He.fAd K x.d.at_
  | none => 0
/-- the forms of calls with keywords: by each def's own binding -/
def KBs (X : List Dfn) (kb : List (Nat × Nat × List Str × List Nat)) : Prop := ∀ q ∈ kb, ∀ x, X[q.1]? = some x → ∀ (kV doc pm : Value) (an : Option Addr) (cdv ct : Value) (us ws : List Value), us.length = q.2.1 → ws.length = q.2.2.1.length →
  ∃ bs, permL q.2.2.2 (us ++ ws) = some bs ∧ bindArgs (PySem.W.fnOf x.d.name x.d.qual x.d.params x.d.body x.d.scope .none kV doc pm an cdv ct) ⟨us, q.2.2.1.zip ws⟩ = pure ((x.N.take x.f.np).zip bs)
section
variable {K : PySem.W.Frag} {mg : Str → Option Value} {h : Heap} {X : List Dfn} {kb : List (Nat × Nat × List Str × List Nat)} {ci : List (Str × Int)} {cs : List (Str × Str)}
theorem defs_at (KX : K.In h) (G : h.Ns mainGlobals mg) (c : He.SaysD (faL X ci cs) (X.map (·.d)) K) (hs : X.all scopeC = true) (hd : X.all dC = true) (hkb : KBs X kb) : ∀ g x, X[g]? = some x → ∃ fd, DefAt K mg kb (faOf K X) g x fd := fun g x hx => by
  have hmem := List.mem_of_getElem? hx
  obtain ⟨fs, hN, hnp⟩ := scope_ok (List.all_eq_true.mp hs x hmem)
  have hdx := List.all_eq_true.mp hd x hmem
  obtain ⟨hdx, h4⟩ := ba hdx
  obtain ⟨hdx, h3⟩ := ba hdx
  obtain ⟨h1, h2⟩ := ba hdx
  have h1 := of_decide_eq_true h1
  have h2 := List.isEmpty_iff.mp h2
  have h3 := List.isEmpty_iff.mp h3
  have hg : (X.map (·.d))[g]? = some x.d := by rw [List.getElem?_map, hx]; rfl
  obtain ⟨fd, F⟩ := c.def_ g hg
  have e1 : x.d.dvs K = [] := by unfold He.DefD.dvs; rw [h2]; rfl
  have e2 : x.d.kws K = [] := by unfold He.DefD.kws; rw [h3]; rfl
  rw [e1, e2] at F
  have e3 : faOf K X g = He.fAd K x.d.at_ := by unfold faOf; rw [hx]
  rw [← e3] at F
  have hglo : (faL X ci cs)[g]? = some (.glo x.f.name) := by
    unfold faL
    have hlt : g < X.length := (List.getElem?_eq_some_iff.mp hx).1
    rw [List.getElem?_append_left (by simpa using hlt), List.getElem?_map, hx]
    rfl
  have hm := He.glo_ok KX G (c.fact g hglo)
  have ndp : (x.N.take x.f.np).Nodup := fs.nd.sublist (List.take_sublist _ _)
  refine ⟨fd, ⟨F, ?_, F.bindsN fun kV doc pm an cdv ct us hl => bind_plain h4 ndp hl, fun n ks perm hq => kb_of F fun kV doc pm an cdv ct us ws q1 q2 => hkb _ hq x hx kV doc pm an cdv ct us ws q1 q2⟩⟩
  rw [hm, e3, h1]
  rfl
theorem bl_free (KX : K.In h) (G : h.Ns mainGlobals mg) (c : He.SaysD (faL X ci cs) (X.map (·.d)) K) : ∀ y ∈ blNames, mg y = none := fun y hy => by
  have hm : He.Fa.free y ∈ faL X ci cs := List.mem_append_right _ (List.mem_append_left _ (List.mem_map.mpr ⟨y, hy, rfl⟩))
  obtain ⟨i, hi⟩ := List.getElem?_of_mem hm
  exact He.free_ok KX G (c.fact i hi)
theorem ci_at (KX : K.In h) (G : h.Ns mainGlobals mg) (c : He.SaysD (faL X ci cs) (X.map (·.d)) K) : ∀ y z, (y, z) ∈ ci → ∃ t, mg y = some (.int z t) := fun y z hy => by
  have hm : He.Fa.int y z ∈ faL X ci cs := List.mem_append_right _ (List.mem_append_right _ (List.mem_append_left _ (List.mem_map.mpr ⟨(y, z), hy, rfl⟩)))
  obtain ⟨i, hi⟩ := List.getElem?_of_mem hm
  exact He.int_ok KX G (c.fact i hi)
theorem cs_at (KX : K.In h) (G : h.Ns mainGlobals mg) (c : He.SaysD (faL X ci cs) (X.map (·.d)) K) : ∀ y z, (y, z) ∈ cs → ∃ t, mg y = some (.str z t) := fun y z hy => by
  have hm : He.Fa.str y z ∈ faL X ci cs := List.mem_append_right _ (List.mem_append_right _ (List.mem_append_right _ (List.mem_map.mpr ⟨(y, z), hy, rfl⟩)))
  obtain ⟨i, hi⟩ := List.getElem?_of_mem hm
  exact He.str_ok KX G (c.fact i hi)
theorem fd_uniq {x qual : Str} {params : Arguments} {body : List Stmt} {scope : Scope} {dvs dvs' : List V} {kws kws' : List (Str × V)} {f : Addr} {fd fd' : FuncData} (F : FunD K x qual params body scope dvs kws f fd) (F' : FunD K x qual params body scope dvs' kws' f fd') : fd = fd' := by
  obtain ⟨oc, od, dV, kV, doc, pm, an, cdv, ct, osl, rfl, lk, _⟩ := F.ex
  obtain ⟨oc', od', dV', kV', doc', pm', an', cdv', ct', osl', rfl, lk', _⟩ := F'.ex
  rw [lk] at lk'
  injection lk' with e
  injection e with e1 e2 e3 e4
  injection e3
def xaOf (K : PySem.W.Frag) (xs : List Str) (j : Nat) : Addr := match xs[j]? with
  | some x => He.ga K x
  | none => 0
/-- whatever the world -/
def CXw (P : Program) : CXT := fun outer H s E u s' => ∃ w, L2.CX P w outer H s E u s'
theorem fn_cx {P : Program} {w : World} {base : Heap} {CX CX' : CXT} {k : Nat} {f : Addr} {fd : FuncData} {ps : List Str} {sp : Sp} (hc : ∀ outer H s E u s', CX outer H s E u s' → CX' outer H s E u s') (F : FnG P w K mg base CX k f fd ps sp) : FnG P w K mg base CX' k f fd ps sp :=
  ⟨F.len, fun A outer s H args us vs Q E hr hg e0 hb hv h => codeAny_mono (F.run A outer s H args us vs Q E hr hg e0 hb hv h) fun r s' hq => by
    cases r with
    | error e => exact hc _ _ _ _ _ _ hq
    | ok fl => cases fl <;> exact hq⟩
/-- what walk_ofE asks of a law -/
theorem law_facts {P : Program} {w : World} {T : List Fn} {k n g : Nat} {fa : Addr} {x : Dfn} {y : Str} (KX : K.In h) (G : h.Ns mainGlobals mg) {xs : List Str} {xb : Str} (cV : SaysV P xs xb (faL X ci cs) (X.map (·.d)) K) (hT : X.map (·.f) = T) (hs : X.all scopeC = true) (hb : X.all (bodyC T kb ci cs xs xb) = true) (hd : X.all dC = true) (hkb : KBs X kb)
    (hx : X[g]? = some x) (hfa : mg x.f.name = some (.ref fa)) (hn2 : n ≤ sizeLine) (hnp : x.f.np = 1) (hm : x.f.msk = []) (hfr : x.f.fr = false) (hy : x.N.take 1 = [y])
    (hlaw : ∀ ns : List Int, ns.length ≤ n → CF T k g [.scr ns] = .ret (.bl true) []) :
    ∃ (K : PySem.W.Frag) (fd : FuncData) (sp : Sp), K.In h ∧ (∀ (s : Shared) (u : Value), BindsTo s fd ⟨[u], []⟩ [(y, u)]) ∧
      (∀ (H : Hp) (a : Addr) (ns : List Int), ns.length ≤ n → Only H → SqL K H a (ns.map V.int) → sp [.ref a] H (fun v _ => v = .bl true) fun _ _ _ => False) ∧
      ∀ base : Heap, K.In base → base.Ns mainGlobals mg → FnG P w K mg base (CXw P) (k + 2) fa fd [y] sp := by
  obtain ⟨c, cB⟩ := cV
  obtain ⟨cx1, cx2, cx3⟩ := clsB_ok KX G cB
  have xaE : ∀ (j : Nat) (x : Str), xs[j]? = some x → xaOf K xs j = He.ga K x := fun j x e => by unfold xaOf; rw [e]
  have hxs : ∀ (j : Nat) (x : Str), xs[j]? = some x → XAt P K mg (xaOf K xs j) x := fun j x e => by
    rw [xaE j x e]
    obtain ⟨⟨f0, fd0, h1⟩, h2, h3, h4⟩ := cx1 j x e
    exact ⟨⟨f0, fd0, h1⟩, h2, h3, h4⟩
  have hxk : ∀ i j, i < xs.length → j < xs.length → PySem.W.kitOne K (.ref (xaOf K xs i)) (.ref (xaOf K xs j)) = some (i == j) := fun i j hi hj => by
    rw [xaE i _ (List.getElem?_eq_getElem hi), xaE j _ (List.getElem?_eq_getElem hj)]
    exact cx2 i j _ _ (List.getElem?_eq_getElem hi) (List.getElem?_eq_getElem hj)
  have hxb : xb ≠ "" → ∃ c, mg xb = some (.ref c) ∧ ∀ j, j < xs.length → PySem.W.exmOne K (.ref (xaOf K xs j)) (.ref c) = some true := fun hne => by
    obtain ⟨h1, h2⟩ := cx3 hne
    refine ⟨_, h1, fun j hj => ?_⟩
    rw [xaE j _ (List.getElem?_eq_getElem hj)]
    exact h2 _ (List.getElem_mem hj)
  obtain ⟨fd, D⟩ := defs_at KX G c hs hd hkb g x hx
  have e := D.glo
  rw [hfa] at e
  cases e
  have hmem := List.mem_of_getElem? hx
  obtain ⟨fs, hN, hlen⟩ := scope_ok (List.all_eq_true.mp hs x hmem)
  have hdx := (ba (List.all_eq_true.mp hd x hmem)).2
  have ep : x.N.take x.f.np = [y] := by rw [hnp]; exact hy
  refine ⟨K, fd, spD (wdOf K (faOf K X) (xaOf K xs) xs T) (xaOf K xs) x.f (CF T k g), KX, fun s u => ?_, fun H a ns hl hO hS => law_sp hn2 hnp hm hfr hl hO hS (hlaw ns hl), fun base KB GB => ?_⟩
  · have ndp : (x.N.take x.f.np).Nodup := fs.nd.sublist (List.take_sublist _ _)
    have b := FunD.bindsA (ps := x.N.take x.f.np) D.fn (fun kV doc pm an cdv ct us hl => bind_plain hdx ndp hl) s [u] (by rw [ep]; rfl)
    rw [ep] at b
    exact b
  · obtain ⟨fd2, D2, F2⟩ := tab_ok (P := P) (w := w) (base := base) (xa := xaOf K xs) hT hs hb (bl_free KX G c) (ci_at KX G c) (cs_at KX G c) (defs_at KX G c hs hd hkb) hxs hxk hxb k g x hx
    have := fd_uniq D.fn D2.fn
    subst this
    rw [ep] at F2
    exact fn_cx (fun _ _ _ _ _ _ q => ⟨w, q⟩) F2
theorem cx_none {P : Program} : ∀ (H : Hp) (s : Shared) (e : Value) (s' : Shared), CXw P [] H s (fun _ _ _ => False) e s' → False := fun _ _ _ _ ⟨_, _, _, _, _, _, _, _, _, _, _, _, _, h⟩ => h
end
end VI
/-! VK: what laws share: numbers drawn, data compared. -/
namespace VI
open PySem PySem.Spec PyProof.Rows L2
theorem kt1 : kitB "int" "int" = some true := by decide +kernel
theorem kt2 : kitB "int" "bool" = some false := by decide +kernel
theorem kt3 : kitB "int" "list" = some false := by decide +kernel
theorem kt4 : kitB "int" "tuple" = some false := by decide +kernel
theorem kt5 : kitB "int" "str" = some false := by decide +kernel
theorem kt6 : kitB "bool" "int" = some true := by decide +kernel
theorem kt7 : kitB "bool" "bool" = some true := by decide +kernel
theorem kt8 : kitB "bool" "list" = some false := by decide +kernel
theorem kt9 : kitB "bool" "tuple" = some false := by decide +kernel
theorem kt10 : kitB "bool" "str" = some false := by decide +kernel
theorem kt11 : kitB "list" "int" = some false := by decide +kernel
theorem kt12 : kitB "list" "bool" = some false := by decide +kernel
theorem kt13 : kitB "list" "list" = some true := by decide +kernel
theorem kt14 : kitB "list" "tuple" = some false := by decide +kernel
theorem kt15 : kitB "list" "str" = some false := by decide +kernel
theorem kt16 : kitB "tuple" "int" = some false := by decide +kernel
theorem kt17 : kitB "tuple" "bool" = some false := by decide +kernel
theorem kt18 : kitB "tuple" "list" = some false := by decide +kernel
theorem kt19 : kitB "tuple" "tuple" = some true := by decide +kernel
theorem kt20 : kitB "tuple" "str" = some false := by decide +kernel
theorem kt21 : kitB "str" "int" = some false := by decide +kernel
theorem kt22 : kitB "str" "bool" = some false := by decide +kernel
theorem kt23 : kitB "str" "list" = some false := by decide +kernel
theorem kt24 : kitB "str" "tuple" = some false := by decide +kernel
theorem kt25 : kitB "str" "str" = some true := by decide +kernel
theorem kt26 : kitB "NoneType" "int" = some false := by decide +kernel
theorem kt27 : kitB "NoneType" "bool" = some false := by decide +kernel
theorem kt28 : kitB "NoneType" "list" = some false := by decide +kernel
theorem kt29 : kitB "NoneType" "tuple" = some false := by decide +kernel
theorem kt30 : kitB "NoneType" "str" = some false := by decide +kernel

theorem sz_le {n : Nat} (h : n ≤ 100000) : n ≤ sizeLine := Nat.le_trans h (by decide)
theorem eq_int (a b : Int) : eqD (.int a) (.int b) = some (a == b) := by
  unfold eqD toPy SeqAt.shaped PyData.canLay0 PyData.depth PyData.eqv
  rfl
theorem mulOk_of {i j : Int} (a b : Nat) (hi : i.natAbs < 2 ^ a) (hj : j.natAbs < 2 ^ b) (h : a + b ≤ 900000) : mulOk i j = true := by
  have key : ∀ (n a : Nat), n < 2 ^ a → n.log2 ≤ a := fun n a hn => by
    by_cases h0 : n = 0
    · subst h0; simp
    · exact Nat.le_of_lt ((Nat.log2_lt h0).mpr hn)
  have h1 := key _ _ hi
  have h2 := key _ _ hj
  unfold mulOk
  exact decide_eq_true (by omega)
theorem mul_int {i j : Int} (a b : Nat) (hi : i.natAbs < 2 ^ a) (hj : j.natAbs < 2 ^ b) (h : a + b ≤ 900000) : mulD (.int i) (.int j) = some (.int (i * j)) := by
  show (if mulOk i j = true then _ else _) = _
  rw [if_pos (mulOk_of a b hi hj h)]
theorem add_int (i j : Int) : addD (.int i) (.int j) = some (.int (i + j)) := rfl
theorem sub_int (i j : Int) : subD (.int i) (.int j) = some (.int (i - j)) := rfl
theorem mod_int {i j : Int} (h : j ≠ 0) : modD (.int i) (.int j) = some (.int (i.fmod j)) := by
  show (if j ≠ 0 then _ else _) = _
  rw [if_pos h]
theorem fdiv_int {i j : Int} (a : Nat) (h : j ≠ 0) (hj : j.natAbs < 2 ^ a) (ha : a ≤ 9000) : fdivD (.int i) (.int j) = some (.int (i.fdiv j)) := by
  have h0 : j.natAbs ≠ 0 := by omega
  show (if j ≠ 0 ∧ j.natAbs.log2 < 9000 then _ else _) = _
  rw [if_pos ⟨h, Nat.lt_of_lt_of_le ((Nat.log2_lt h0).mpr hj) ha⟩]
theorem natAbs_lt {d : Int} {k : Nat} (h0 : 0 ≤ d) (h : d < 2 ^ k) : d.natAbs < 2 ^ k := by
  have e : ((2 ^ k : Nat) : Int) = (2 : Int) ^ k := Int.natCast_pow 2 k
  omega
theorem fmod_range {i j : Int} (h : 0 < j) : 0 ≤ i.fmod j ∧ i.fmod j < j := ⟨Int.fmod_nonneg_of_pos i h, Int.fmod_lt_of_pos i h⟩

/-! ### numbers drawn -/
def fnHash : Fn := ⟨"_law_hash", 2, 3, [], false, (.cons (.set (.nm 2) false (.bin .Mod (.bi .int (.cons (.bin .Add (.bin .Add (.bin .Add (.bin .Mult (.var 0) (.int 1140671)) (.bin .Mult (.bin .Mult (.int 27644437) (.var 1)) (.var 1))) (.bin .Mult (.int 131) (.var 1))) (.int 19)) .nil)) (.int 2147483629))) (.cons (.set (.nm 2) false (.bin .Mod (.bi .int (.cons (.bin .Add (.bin .Add (.bin .Mult (.var 2) (.var 2)) (.bin .Mult (.int 62089) (.var 1))) (.int 32416187)) .nil)) (.int 2147483587))) (.cons (.ret (.bin .Mod (.bi .int (.cons (.bin .Mult (.var 2) (.int 48271)) .nil)) (.int 2147483647))) .nil)))⟩
def hashN (s i : Int) : Int :=
  let m1 := (s * 1140671 + 27644437 * i * i + 131 * i + 19).fmod 2147483629
  let m2 := (m1 * m1 + 62089 * i + 32416187).fmod 2147483587
  (m2 * 48271).fmod 2147483647
theorem hash_ok (C : CT) {s i : Int} (hs : s.natAbs < 2 ^ 40) (hi : i.natAbs < 2 ^ 40) : runF C fnHash [.int s, .int i] = .ret (.int (hashN s i)) [] := by
  have e1 : mulD (.int s) (.int 1140671) = some (.int (s * 1140671)) := mul_int 40 40 hs (by decide) (by decide)
  have e2 : mulD (.int 27644437) (.int i) = some (.int (27644437 * i)) := mul_int 40 40 (by decide) hi (by decide)
  have e3 : mulD (.int (27644437 * i)) (.int i) = some (.int (27644437 * i * i)) := mul_int 80 40 (by omega) hi (by decide)
  have e4 : mulD (.int 131) (.int i) = some (.int (131 * i)) := mul_int 40 40 (by decide) hi (by decide)
  obtain ⟨m1, hm1⟩ : ∃ m, (s * 1140671 + 27644437 * i * i + 131 * i + 19).fmod 2147483629 = m := ⟨_, rfl⟩
  have r1 := fmod_range (i := s * 1140671 + 27644437 * i * i + 131 * i + 19) (j := 2147483629) (by decide)
  rw [hm1] at r1
  have e5 : mulD (.int m1) (.int m1) = some (.int (m1 * m1)) := mul_int 40 40 (by omega) (by omega) (by decide)
  have e6 : mulD (.int 62089) (.int i) = some (.int (62089 * i)) := mul_int 40 40 (by decide) hi (by decide)
  obtain ⟨m2, hm2⟩ : ∃ m, (m1 * m1 + 62089 * i + 32416187).fmod 2147483587 = m := ⟨_, rfl⟩
  have r2 := fmod_range (i := m1 * m1 + 62089 * i + 32416187) (j := 2147483587) (by decide)
  rw [hm2] at r2
  have e7 : mulD (.int m2) (.int 48271) = some (.int (m2 * 48271)) := mul_int 40 40 (by omega) (by decide) (by decide)
  simp [runF, fnHash, exs, ex, ev, evs, getE, biD, binD, bindT, outsOf, isL, e1, e2, e3, e4, e5, e6, e7, add_int, modD, hm1, hm2, hashN]
theorem hashN_range (s i : Int) : 0 ≤ hashN s i ∧ hashN s i < 2147483647 := fmod_range (by decide)
/-- the loop of a draw -/
def rndBody (h : Nat) : ISs := (.cons (.seti 0 (.int 2) (.bin .Add (.idxo 0 (.int 2)) (.int 1))) (.cons (.set (.nm 2) false (.bin .Add (.bin .Mult (.var 2) (.int 2147483587)) (.call h (.cons (.idxo 0 (.int 1)) (.cons (.idxo 0 (.int 2)) .nil))))) .nil))
def fnRandom (h : Nat) : Fn := ⟨"_law_random", 2, 4, [true], false, (.cons (.ifs (.cmp .Gt (.idxo 0 (.int 0)) (.int 0)) (.cons (.set (.nm 2) false (.bin .Mod (.bi .int (.cons (.idxo 0 (.int 0)) .nil)) (.var 1))) (.cons (.seti 0 (.int 0) (.bin .FloorDiv (.idxo 0 (.int 0)) (.var 1))) (.cons (.ret (.var 2)) .nil))) .nil) (.cons (.set (.nm 2) false (.int 0)) (.cons (.for_ (.nm 3) (.rng (.bin .Add (.int 1) (.bin .FloorDiv (.bits (.var 1)) (.int 30)))) (rndBody h)) (.cons (.ret (.bin .Mod (.bi .int (.cons (.var 2) .nil)) (.var 1))) .nil))))⟩
/-- the generator: m bounds how far it has counted -/
def Gn (m : Nat) (g : D) : Prop := ∃ a b c : Int, g = .lst [.int a, .int b, .int c] ∧ 0 ≤ a ∧ 0 ≤ b ∧ b < 2147483647 ∧ 0 ≤ c ∧ c ≤ m
theorem at3 (a b c : D) : atI [a, b, c] 0 = some a ∧ atI [a, b, c] 1 = some b ∧ atI [a, b, c] 2 = some c := ⟨rfl, rfl, rfl⟩
theorem ix3 : ixN 3 0 = some 0 ∧ ixN 3 2 = some 2 := ⟨rfl, rfl⟩
theorem rnd_loop {C : CT} {h : Nat} {a b : Int} {bd : D} (hC : ∀ s i : Int, s.natAbs < 2 ^ 40 → i.natAbs < 2 ^ 40 → C h [.int s, .int i] = .ret (.int (hashN s i)) []) (hb : 0 ≤ b) (hb2 : b < 2147483647) : ∀ (n e : Nat) (lo c d : Int) (t : Option D), 0 ≤ d → d < 2 ^ (31 * e) → 31 * (e + n) ≤ 100000 → 0 ≤ c → c + n < 2 ^ 39 →
    ∃ d' t', forD (.nm 3) (exs C (rndBody h)) (rangeD lo n) [some (.lst [.int a, .int b, .int c]), some bd, some (.int d), t] = .next [some (.lst [.int a, .int b, .int (c + n)]), some bd, some (.int d'), t'] ∧ 0 ≤ d'
  | 0, e, lo, c, d, t, hd, _, _, _, _ => ⟨d, t, by simp [rangeD, forD], hd⟩
  | n + 1, e, lo, c, d, t, hd, hd2, he, hc, hc2 => by
    have e1 : mulD (.int d) (.int 2147483587) = some (.int (d * 2147483587)) := mul_int (31 * e) 40 (natAbs_lt hd hd2) (by decide) (by omega)
    have e2 := hC b (c + 1) (by omega) (by omega)
    have hr := hashN_range b (c + 1)
    have e3 : d * 2147483587 + hashN b (c + 1) < 2 ^ (31 * (e + 1)) := by
      have : (2 : Int) ^ (31 * (e + 1)) = 2 ^ (31 * e) * 2147483648 := by rw [Nat.mul_add, Int.pow_add]; rfl
      omega
    obtain ⟨d', t', h1, h2⟩ := rnd_loop hC hb hb2 n (e + 1) (lo + 1) (c + 1) (d * 2147483587 + hashN b (c + 1)) (some (.int lo)) (by omega) e3 (by omega) (by omega) (by omega)
    refine ⟨d', t', ?_, h2⟩
    have e4 : c + ((n + 1 : Nat) : Int) = c + 1 + (n : Int) := by omega
    rw [e4, ← h1]
    simp [rangeD, forD, bindT, rndBody, exs, ex, ev, evs, getE, binD, idxD, at3, ix3, add_int, e1, e2, callD, argsAt, outsAt, IEs.owns]
theorem bits_le {i : Int} {k : Nat} (h0 : 0 < i) (h : i < 2 ^ k) : Builtin.Int.intBits i ≤ k := by
  unfold Builtin.Int.intBits
  have e : (i == 0) = false := by simp; omega
  rw [e]
  have := (Nat.log2_lt (n := i.natAbs) (by omega)).mpr (natAbs_lt (by omega) h)
  simp
  omega
/-- one draw -/
theorem random_ok {C : CT} {h m k : Nat} {g : D} {bd : Int} (hC : ∀ s i : Int, s.natAbs < 2 ^ 40 → i.natAbs < 2 ^ 40 → C h [.int s, .int i] = .ret (.int (hashN s i)) []) (hg : Gn m g) (hb : 0 < bd) (hb2 : bd < 2 ^ k) (hk : k ≤ 3000) (hm : m < 2 ^ 38) :
    ∃ (r : Int) (g' : D), runF C (fnRandom h) [g, .int bd] = .ret (.int r) [g'] ∧ 0 ≤ r ∧ r < bd ∧ Gn (m + 101) g' := by
  obtain ⟨a, b, c, rfl, ha, hb0, hb1, hc, hcm⟩ := hg
  have hbd : bd ≠ 0 := by omega
  by_cases h0 : 0 < a
  · have e1 : fdivD (.int a) (.int bd) = some (.int (a.fdiv bd)) := fdiv_int k hbd (natAbs_lt (by omega) hb2) (by omega)
    have r1 := fmod_range (i := a) hb
    refine ⟨a.fmod bd, .lst [.int (a.fdiv bd), .int b, .int c], ?_, r1.1, r1.2, _, _, _, rfl, ?_, hb0, hb1, hc, by omega⟩
    · simp [runF, fnRandom, exs, ex, ev, evs, evb, getE, biD, binD, bindT, outsOf, isL, truD, cmpD, idxD, at3, ix3, mod_int hbd, e1, h0]
    · exact Int.fdiv_nonneg ha (by omega)
  · have hbits : Builtin.Int.intBits bd ≤ k := bits_le hb hb2
    have hn : ((1 + (Builtin.Int.intBits bd : Int).fdiv 30)).toNat ≤ 101 := by
      rw [Int.fdiv_eq_ediv_of_nonneg _ (by decide)]
      omega
    have hn0 : rngOk (1 + (Builtin.Int.intBits bd : Int).fdiv 30) = true := by
      rw [Int.fdiv_eq_ediv_of_nonneg _ (by decide)]
      unfold rngOk
      simp
      omega
    obtain ⟨n, hn'⟩ : ∃ n, (1 + (Builtin.Int.intBits bd : Int).fdiv 30).toNat = n := ⟨_, rfl⟩
    rw [hn'] at hn
    obtain ⟨d', t', h1, h2⟩ := rnd_loop (a := a) (bd := .int bd) hC hb0 hb1 n 0 0 c 0 none (by decide) (by decide) (by omega) hc (by omega)
    have r1 := fmod_range (i := d') hb
    refine ⟨d'.fmod bd, .lst [.int a, .int b, .int (c + n)], ?_, r1.1, r1.2, _, _, _, rfl, ha, hb0, hb1, by omega, by omega⟩
    have e1 : fdivD (.int (Builtin.Int.intBits bd : Nat)) (.int 30) = some (.int ((Builtin.Int.intBits bd : Int).fdiv 30)) := fdiv_int 30 (by decide) (by decide) (by decide)
    simp [runF, fnRandom, exs, ex, ev, evs, evb, evi, getE, biD, binD, bindT, outsOf, isL, truD, cmpD, idxD, at3, ix3, mod_int hbd, e1, h0, add_int, hn0, hn', h1]
def fnCell : Fn := ⟨"_law_cell", 2, 2, [], false, (.cons (.ifs (.cmp .Lt (.var 1) (.bi .len (.cons (.var 0) .nil))) (.cons (.ret (.idx (.var 0) (.var 1))) .nil) .nil) (.cons (.ret (.bin .Mod (.bi .sum (.cons (.sl (.var 0) .none (.some (.int 1))) .nil)) (.int 1000003))) .nil))⟩
theorem intsOf_map : ∀ ns : List Int, intsOf (ns.map D.int) = some ns
  | [] => rfl
  | n :: ns => by
    show (intsOf (ns.map D.int)).map (n :: ·) = _
    rw [intsOf_map ns]
    rfl
theorem cell_ok (C : CT) {ns : List Int} {i : Nat} (hl : ns.length ≤ sizeLine) : ∃ s, runF C fnCell [.scr ns, .int i] = .ret (.int s) [] := by
  by_cases h : i < ns.length
  · have e : atI ns (i : Int) = some ns[i] := by
      unfold atI ixN
      simp [h]
    exact ⟨ns[i], by simp [runF, fnCell, exs, ex, ev, evs, evb, getE, biD, lenD, binD, outsOf, isL, truD, cmpD, ltD, idxD, h, e]⟩
  · have h' : ¬ (i : Int) < (ns.length : Int) := by omega
    exact ⟨_, by simp [runF, fnCell, exs, ex, ev, evs, evo, evb, getE, biD, lenD, binD, outsOf, isL, truD, cmpD, ltD, idxD, slD, h', hl, modD, intsOf_map]; rfl⟩
def fnGen (c : Nat) : Fn := ⟨"_law_generator", 2, 3, [], true, (.cons (.set (.nm 2) false (.call c (.cons (.var 0) (.cons (.var 1) .nil)))) (.cons (.ret (.lst (.cons (.bin .Mod (.bi .int (.cons (.bi .max (.cons (.bin .Sub (.var 2) (.bin .Pow (.int 10) (.int 18))) (.cons (.int 0) .nil))) .nil)) (.bin .Pow (.bin .Pow (.int 10) (.int 60)) (.int 10))) (.cons (.bin .Mod (.bi .int (.cons (.var 2) .nil)) (.int 2147483647)) (.cons (.bin .Mult (.int 1000) (.var 1)) .nil))))) .nil))⟩
theorem pow_int {i j : Int} (h : (decide (0 ≤ j) && decide (((i.natAbs.log2 + 1 : Nat) : Int) * j ≤ 134217728)) = true) : powD (.int i) (.int j) = some (.int (i ^ j.toNat)) := by
  rw [Bool.and_eq_true, decide_eq_true_eq, decide_eq_true_eq] at h
  show (if _ ∧ _ then _ else _) = _
  rw [if_pos h]
theorem pow_a : powD (.int 10) (.int 18) = some (.int (10 ^ 18)) := pow_int (by decide +kernel)
theorem pow_b : powD (.int 10) (.int 60) = some (.int (10 ^ 60)) := pow_int (by decide +kernel)
theorem pow_c : powD (.int (10 ^ 60)) (.int 10) = some (.int ((10 ^ 60) ^ 10)) := pow_int (by decide +kernel)
theorem gen_ok {C : CT} {c i : Nat} {ns : List Int} (hC : ∃ s, C c [.scr ns, .int i] = .ret (.int s) []) (hi : i < 1000) : ∃ g, runF C (fnGen c) [.scr ns, .int i] = .ret g [] ∧ Gn (1000 * i) g := by
  obtain ⟨s, hs⟩ := hC
  have e1 : mulD (.int 1000) (.int i) = some (.int (1000 * i)) := mul_int 30 30 (by decide) (by omega) (by decide)
  obtain ⟨z, hz⟩ : ∃ z : Int, z = if (0 : Int) > s - 10 ^ 18 then 0 else s - 10 ^ 18 := ⟨_, rfl⟩
  have r1 := fmod_range (i := z) (j := (10 ^ 60) ^ 10) (by decide +kernel)
  have r2 := fmod_range (i := s) (j := 2147483647) (by decide)
  obtain ⟨w, hw⟩ : ∃ w : Int, w = z.fmod ((10 ^ 60) ^ 10) := ⟨_, rfl⟩
  have e2 : modD (.int z) (.int ((10 ^ 60) ^ 10)) = some (.int w) := by rw [hw]; exact mod_int (by decide +kernel)
  have e3 : biD .max [.int (s - 10 ^ 18), .int 0] = some (.int z) := by rw [hz]; rfl
  refine ⟨.lst [.int w, .int (s.fmod 2147483647), .int (1000 * i)], ?_, _, _, _, rfl, by rw [hw]; exact r1.1, r2.1, r2.2, by omega, by omega⟩
  have e4 : ∀ i : Int, biD .int [.int i] = some (.int i) := fun _ => rfl
  have e5 : modD (.int s) (.int 2147483647) = some (.int (s.fmod 2147483647)) := mod_int (by decide)
  simp [-Int.reducePow, runF, fnGen, exs, ex, ev, evs, getE, binD, bindT, sub_int, pow_a, pow_b, pow_c, callD, argsAt, outsAt, IEs.owns, hs, e1, e2, e3, e4, e5, isL, outsOf, sz_le (n := 3) (by decide)]
/-! ### data compared -/
def fnPick (r : Nat) : Fn := ⟨"_law_pick", 2, 2, [true], false, (.cons (.ret (.idx (.var 1) (.call r (.cons (.own 0) (.cons (.bi .len (.cons (.var 1) .nil)) .nil))))) .nil)⟩
/-- what a draw does -/
def RndOk (C : CT) (r : Nat) : Prop := ∀ (m k : Nat) (g : D) (bd : Int), Gn m g → 0 < bd → bd < 2 ^ k → k ≤ 3000 → m < 2 ^ 38 → ∃ (x : Int) (g' : D), C r [g, .int bd] = .ret (.int x) [g'] ∧ 0 ≤ x ∧ x < bd ∧ Gn (m + 101) g'
theorem pick_ok {C : CT} {r m : Nat} {g : D} {ds : List D} (hr : RndOk C r) (hg : Gn m g) (hm : m < 2 ^ 38) (h0 : ds ≠ []) (hl : ds.length < 2 ^ 40) : ∃ d g', runF C (fnPick r) [g, .lst ds] = .ret d [g'] ∧ d ∈ ds ∧ Gn (m + 101) g' := by
  have hp : 0 < ds.length := List.length_pos_iff.mpr h0
  obtain ⟨x, g', h1, h2, h3, h4⟩ := hr m 40 g ds.length hg (by omega) (by omega) (by decide) hm
  obtain ⟨n, rfl⟩ : ∃ n : Nat, x = n := ⟨x.toNat, by omega⟩
  have hn : n < ds.length := by omega
  have e : atI ds (n : Int) = some ds[n] := by
    unfold atI ixN
    simp [hn]
  exact ⟨ds[n], g', by simp [runF, fnPick, exs, ex, ev, evs, getE, biD, lenD, callD, argsAt, outsAt, IEs.owns, h1, idxD, e, outsOf], List.getElem_mem hn, h4⟩
def sameLc (s : Nat) : IE := (.lc [2] (.nm 2) (.rng (.bi .len (.cons (.var 1) .nil))) (.some (.not (.call s (.cons (.idx (.var 0) (.var 2)) (.cons (.idx (.var 1) (.var 2)) .nil))))) (.var 2))
def fnSame (s : Nat) : Fn := ⟨"_law_same", 2, 3, [], false, (.cons (.ifs (.or (.cmp .Is (.var 1) .non) (.or (.cmp .Is (.var 1) (.bl true)) (.cmp .Is (.var 1) (.bl false)))) (.cons (.ret (.ife (.cmp .Is (.var 1) .non) (.cmp .Is (.var 0) .non) (.ife (.cmp .Is (.var 1) (.bl true)) (.cmp .Is (.var 0) (.bl true)) (.cmp .Is (.var 0) (.bl false))))) .nil) .nil) (.cons (.ifs (.bi .isi (.cons (.var 1) (.cons (.tup (.cons (.ty "list") (.cons (.ty "tuple") .nil))) .nil))) (.cons (.ifs (.or (.and (.not (.bi .isi (.cons (.var 0) (.cons (.ty "list") .nil)))) (.bi .isi (.cons (.var 1) (.cons (.ty "list") .nil)))) (.and (.not (.bi .isi (.cons (.var 0) (.cons (.ty "tuple") .nil)))) (.bi .isi (.cons (.var 1) (.cons (.ty "tuple") .nil))))) (.cons (.ret (.bl false)) .nil) .nil) (.cons (.ret (.and (.cmp .Eq (.bi .len (.cons (.var 0) .nil)) (.bi .len (.cons (.var 1) .nil))) (.cmp .Eq (sameLc s) (.lst .nil)))) .nil)) .nil) (.cons (.ifs (.bi .isi (.cons (.var 1) (.cons (.ty "int") .nil))) (.cons (.ret (.and (.bi .isi (.cons (.var 0) (.cons (.ty "int") .nil))) (.and (.not (.bi .isi (.cons (.var 0) (.cons (.ty "bool") .nil)))) (.cmp .Eq (.var 0) (.var 1))))) .nil) .nil) (.cons (.ret (.and (.bi .isi (.cons (.var 0) (.cons (.ty "str") .nil))) (.cmp .Eq (.var 0) (.var 1)))) .nil))))⟩
/-- how deep a datum is -/
inductive Deep : Nat → D → Prop where
  | int (n : Nat) (i : Int) : Deep n (.int i)
  | bl (n : Nat) (b : Bool) : Deep n (.bl b)
  | non (n : Nat) : Deep n .non
  | lst (n : Nat) (ds : List D) (h : ∀ d ∈ ds, Deep n d) (hl : ds.length ≤ sizeLine) : Deep (n + 1) (.lst ds)
  | tup (n : Nat) (ds : List D) (h : ∀ d ∈ ds, Deep n d) (hl : ds.length ≤ sizeLine) : Deep (n + 1) (.tup ds)
/-- no item is left: the comprehension gives an empty list -/
theorem lc_none {c : Env → Res Bool} {x y : D} : ∀ (n : Nat) (lo : Int) (t : Option D), (∀ (j : Nat), j < n → c [some x, some y, some (.int (lo + j))] = .ok false [some x, some y, some (.int (lo + j))]) → ∃ t', ∀ f : Env → Res D, lcD (.nm 2) [2] c f (rangeD lo n) 0 [some x, some y, t] = .ok [] [some x, some y, t']
  | 0, lo, t, _ => ⟨t, fun f => by simp [rangeD, lcD]⟩
  | n + 1, lo, t, h => by
    have h0 := h 0 (by omega)
    simp only [Int.add_zero, Int.natCast_zero] at h0
    obtain ⟨t', h1⟩ := lc_none (c := c) (x := x) (y := y) n (lo + 1) (some (.int lo)) fun j hj => by
      have := h (j + 1) (by omega)
      have e : lo + 1 + (j : Int) = lo + ((j + 1 : Nat) : Int) := by omega
      rw [e]; exact this
    refine ⟨t', fun f => ?_⟩
    simp [rangeD, lcD, wipeE, bindT, h0, h1]
theorem is_ok : isD .non .non = some true ∧ (∀ b, isD (.bl b) .non = some false) ∧ (∀ i, isD (.int i) .non = some false) ∧ (∀ x, isD (.lst x) .non = some false) ∧ (∀ x, isD (.tup x) .non = some false) ∧ (∀ a b, isD (.bl a) (.bl b) = some (a == b)) ∧ (∀ i b, isD (.int i) (.bl b) = some false) ∧ (∀ x b, isD (.lst x) (.bl b) = some false) ∧ (∀ x b, isD (.tup x) (.bl b) = some false) :=
  ⟨rfl, fun _ => rfl, fun _ => rfl, fun _ => rfl, fun _ => rfl, fun _ _ => rfl, fun _ _ => rfl, fun _ _ => rfl, fun _ _ => rfl⟩
theorem eq_nil : eqD (.lst []) (.lst []) = some true := by
  unfold eqD toPy toPys SeqAt.shaped
  simp [PyData.canLay0, PyData.canLayAll0, PyData.depth, PyData.depthAll, PyData.eqv, PyData.eqvAll]
theorem rngOk_len {n : Nat} (h : n ≤ sizeLine) : rngOk (n : Int) = true := by
  have : sizeLine < 2 ^ 62 := by decide
  unfold rngOk
  simp
  omega
/-- a datum is the same as itself -/
theorem same_items {C : CT} {s : Nat} {ds : List D} {x : D} (hx : ∀ i : Nat, idxD x (.int i) = ds[i]?) (hC : ∀ d ∈ ds, C s [d, d] = .ret (.bl true) []) : ∀ j : Nat, j < ds.length → evc C (.some (.not (.call s (.cons (.idx (.var 0) (.var 2)) (.cons (.idx (.var 1) (.var 2)) .nil))))) [some x, some x, some (.int j)] = .ok false [some x, some x, some (.int j)] := fun j hj => by
  have e : idxD x (.int j) = some ds[j] := by rw [hx]; exact List.getElem?_eq_getElem hj
  have e2 := hC ds[j] (List.getElem_mem hj)
  simp [evc, ev, evs, getE, e, callD, argsAt, outsAt, IEs.owns, e2, truD]
theorem atI_nat {α : Type} (ds : List α) (i : Nat) : atI ds (i : Int) = ds[i]? := by
  unfold atI ixN
  by_cases h : i < ds.length
  · simp [h]
  · have h1 : ds[i]? = none := List.getElem?_eq_none (by omega)
    simp [h, h1]
theorem same_int (C : CT) (s : Nat) (i : Int) : runF C (fnSame s) [.int i, .int i] = .ret (.bl true) [] := by
  have e1 : eqD (.int i) (.int i) = some true := by rw [eq_int]; simp
  simp [runF, fnSame, exs, ex, ev, evs, evb, getE, biD, isiD, isisD, tysOf, anyIsi, cmpD, is_ok, truD, outsOf, kt1, kt2, kt3, kt4, e1, isL, sz_le (n := 2) (by decide)]
theorem same_bl (C : CT) (s : Nat) (b : Bool) : runF C (fnSame s) [.bl b, .bl b] = .ret (.bl true) [] := by
  cases b <;> simp [runF, fnSame, exs, ex, ev, evs, evb, getE, cmpD, is_ok, truD, outsOf]
theorem same_non (C : CT) (s : Nat) : runF C (fnSame s) [.non, .non] = .ret (.bl true) [] := by
  simp [runF, fnSame, exs, ex, ev, evs, evb, getE, cmpD, is_ok, truD, outsOf]
theorem evi_rng {C : CT} {e : IE} {env env1 : Env} {i : Int} (h : ev C e env = .ok (.int i) env1) (hr : rngOk i = true) : evi C (.rng e) env = .ok (rangeD 0 i.toNat) env1 := by
  have q : evi C (.rng e) env = (ev C e env).bind fun x env1 => match x with
    | .int n => if rngOk n then .ok (rangeD 0 n.toNat) env1 else .bad
    | _ => .bad := rfl
  rw [q, h]
  show (if rngOk i = true then _ else _) = _
  rw [if_pos hr]
theorem ev_lc {C : CT} {vs : List Nat} {tg : IT} {it : II} {c : IO} {e : IE} {env env1 env2 : Env} {ds r : List D} (h1 : evi C it env = .ok ds env1) (h2 : lcD tg vs (evc C c) (ev C e) ds 0 env1 = .ok r env2) : ev C (.lc vs tg it c e) env = .ok (.lst r) (backE env1 env2 vs) := by
  have q : ev C (.lc vs tg it c e) env = (evi C it env).bind fun ds env1 => match lcD tg vs (evc C c) (ev C e) ds 0 env1 with
    | .ok r env2 => .ok (D.lst r) (backE env1 env2 vs)
    | _ => .bad := rfl
  rw [q, h1]
  show (match lcD tg vs (evc C c) (ev C e) ds 0 env1 with
    | .ok r env2 => Res.ok (D.lst r) (backE env1 env2 vs)
    | _ => .bad) = _
  rw [h2]
theorem ev_and {C : CT} {a b : IE} {env env1 : Env} (h : ev C a env = .ok (.bl true) env1) : ev C (.and a b) env = ev C b env1 := by
  have q : ev C (.and a b) env = (ev C a env).bind fun x env1 => match truD x with
    | some true => ev C b env1
    | some false => .ok x env1
    | none => .bad := rfl
  rw [q, h]
  rfl
theorem ev_eqnil {C : CT} {x : IE} {env env1 : Env} (e7 : ev C x env = .ok (.lst []) env1) : ev C (.cmp .Eq x (.lst .nil)) env = .ok (.bl true) env1 := by
  simp only [ev, e7, Res.bind_ok, evs]
  rw [if_pos (by show 0 ≤ sizeLine; exact Nat.zero_le _)]
  simp only [Res.bind_ok, cmpD, eq_nil, Option.map_some, lift_some]
theorem runF_ret {C : CT} {f : Fn} {args : List D} {d : D} {env : Env} {outs : List D} (hb : exs C f.body (args.map some ++ List.replicate (f.nn - f.np) none) = .ret d env) (hn : args.length = f.np) (hfr : f.fr = false) (ho : outsOf f.msk env = some outs) : runF C f args = .ret d outs := by
  unfold runF
  rw [if_pos hn, hb]
  simp only
  rw [hfr, ho]
  rfl
theorem same_lst {C : CT} {s : Nat} {ds : List D} (hl : ds.length ≤ sizeLine) (hC : ∀ d ∈ ds, C s [d, d] = .ret (.bl true) []) : runF C (fnSame s) [.lst ds, .lst ds] = .ret (.bl true) [] := by
  obtain ⟨t', e⟩ := lc_none (c := evc C (.some (.not (.call s (.cons (.idx (.var 0) (.var 2)) (.cons (.idx (.var 1) (.var 2)) .nil)))))) (x := .lst ds) (y := .lst ds) ds.length 0 none fun j hj => by
    rw [Int.zero_add]
    exact same_items (x := .lst ds) (ds := ds) (fun i => atI_nat ds i) hC j hj
  have e1 : eqD (.int ds.length) (.int ds.length) = some true := by rw [eq_int]; simp
  have e2 : isisD (.lst ds) [.ty "list", .ty "tuple"] = some true := by simp [isisD, tysOf, anyIsi, isiD, kt13, kt14]
  have e3 : lenD (.lst ds) = some (.int ds.length) := rfl
  have e4 : isiD (.lst ds) "list" = some true := kt13
  have e5 : isiD (.lst ds) "tuple" = some false := kt14
  obtain ⟨n, hn⟩ : ∃ n, ds.length = n := ⟨_, rfl⟩
  rw [hn] at e e1 e3
  have e6 : rngOk (n : Int) = true := rngOk_len (hn ▸ hl)
  have e7 : ev C (sameLc s) [some (.lst ds), some (.lst ds), none] = .ok (.lst []) [some (.lst ds), some (.lst ds), none] := by
    have q1 : ev C (.bi .len (.cons (.var 1) .nil)) [some (.lst ds), some (.lst ds), none] = .ok (.int n) [some (.lst ds), some (.lst ds), none] := by simp [ev, evs, getE, biD, e3]
    exact ev_lc (evi_rng q1 e6) (e _)
  have h1 : evb C (.or (.cmp .Is (.var 1) .non) (.or (.cmp .Is (.var 1) (.bl true)) (.cmp .Is (.var 1) (.bl false)))) [some (.lst ds), some (.lst ds), none] = .ok false [some (.lst ds), some (.lst ds), none] := by simp [evb, ev, evs, getE, cmpD, is_ok, truD]
  have h2 : evb C (.bi .isi (.cons (.var 1) (.cons (.tup (.cons (.ty "list") (.cons (.ty "tuple") .nil))) .nil))) [some (.lst ds), some (.lst ds), none] = .ok true [some (.lst ds), some (.lst ds), none] := by simp [evb, ev, evs, getE, biD, truD, e2, sz_le (n := 2) (by decide)]
  have h3 : evb C (.or (.and (.not (.bi .isi (.cons (.var 0) (.cons (.ty "list") .nil)))) (.bi .isi (.cons (.var 1) (.cons (.ty "list") .nil)))) (.and (.not (.bi .isi (.cons (.var 0) (.cons (.ty "tuple") .nil)))) (.bi .isi (.cons (.var 1) (.cons (.ty "tuple") .nil))))) [some (.lst ds), some (.lst ds), none] = .ok false [some (.lst ds), some (.lst ds), none] := by simp [evb, ev, evs, getE, biD, truD, e4, e5]
  have h4 : ev C (.and (.cmp .Eq (.bi .len (.cons (.var 0) .nil)) (.bi .len (.cons (.var 1) .nil))) (.cmp .Eq (sameLc s) (.lst .nil))) [some (.lst ds), some (.lst ds), none] = .ok (.bl true) [some (.lst ds), some (.lst ds), none] := by
    have h5 : ev C (.cmp .Eq (.bi .len (.cons (.var 0) .nil)) (.bi .len (.cons (.var 1) .nil))) [some (.lst ds), some (.lst ds), none] = .ok (.bl true) [some (.lst ds), some (.lst ds), none] := by simp [ev, evs, evb, getE, biD, cmpD, e1, e3]
    rw [ev_and h5]
    exact ev_eqnil e7
  have hb : exs C (fnSame s).body [some (.lst ds), some (.lst ds), none] = .ret (.bl true) [some (.lst ds), some (.lst ds), none] := by
    simp only [fnSame, exs, ex, h1, h2, h3, h4, Res.sbind_ok]
  exact runF_ret hb rfl rfl rfl
theorem same_tup {C : CT} {s : Nat} {ds : List D} (hl : ds.length ≤ sizeLine) (hC : ∀ d ∈ ds, C s [d, d] = .ret (.bl true) []) : runF C (fnSame s) [.tup ds, .tup ds] = .ret (.bl true) [] := by
  obtain ⟨t', e⟩ := lc_none (c := evc C (.some (.not (.call s (.cons (.idx (.var 0) (.var 2)) (.cons (.idx (.var 1) (.var 2)) .nil)))))) (x := .tup ds) (y := .tup ds) ds.length 0 none fun j hj => by
    rw [Int.zero_add]
    exact same_items (x := .tup ds) (ds := ds) (fun i => atI_nat ds i) hC j hj
  have e1 : eqD (.int ds.length) (.int ds.length) = some true := by rw [eq_int]; simp
  have e2 : isisD (.tup ds) [.ty "list", .ty "tuple"] = some true := by simp [isisD, tysOf, anyIsi, isiD, kt18, kt19]
  have e3 : lenD (.tup ds) = some (.int ds.length) := rfl
  have e4 : isiD (.tup ds) "list" = some false := kt18
  have e5 : isiD (.tup ds) "tuple" = some true := kt19
  obtain ⟨n, hn⟩ : ∃ n, ds.length = n := ⟨_, rfl⟩
  rw [hn] at e e1 e3
  have e6 : rngOk (n : Int) = true := rngOk_len (hn ▸ hl)
  have e7 : ev C (sameLc s) [some (.tup ds), some (.tup ds), none] = .ok (.lst []) [some (.tup ds), some (.tup ds), none] := by
    have q1 : ev C (.bi .len (.cons (.var 1) .nil)) [some (.tup ds), some (.tup ds), none] = .ok (.int n) [some (.tup ds), some (.tup ds), none] := by simp [ev, evs, getE, biD, e3]
    exact ev_lc (evi_rng q1 e6) (e _)
  have h1 : evb C (.or (.cmp .Is (.var 1) .non) (.or (.cmp .Is (.var 1) (.bl true)) (.cmp .Is (.var 1) (.bl false)))) [some (.tup ds), some (.tup ds), none] = .ok false [some (.tup ds), some (.tup ds), none] := by simp [evb, ev, evs, getE, cmpD, is_ok, truD]
  have h2 : evb C (.bi .isi (.cons (.var 1) (.cons (.tup (.cons (.ty "list") (.cons (.ty "tuple") .nil))) .nil))) [some (.tup ds), some (.tup ds), none] = .ok true [some (.tup ds), some (.tup ds), none] := by simp [evb, ev, evs, getE, biD, truD, e2, sz_le (n := 2) (by decide)]
  have h3 : evb C (.or (.and (.not (.bi .isi (.cons (.var 0) (.cons (.ty "list") .nil)))) (.bi .isi (.cons (.var 1) (.cons (.ty "list") .nil)))) (.and (.not (.bi .isi (.cons (.var 0) (.cons (.ty "tuple") .nil)))) (.bi .isi (.cons (.var 1) (.cons (.ty "tuple") .nil))))) [some (.tup ds), some (.tup ds), none] = .ok false [some (.tup ds), some (.tup ds), none] := by simp [evb, ev, evs, getE, biD, truD, e4, e5]
  have h4 : ev C (.and (.cmp .Eq (.bi .len (.cons (.var 0) .nil)) (.bi .len (.cons (.var 1) .nil))) (.cmp .Eq (sameLc s) (.lst .nil))) [some (.tup ds), some (.tup ds), none] = .ok (.bl true) [some (.tup ds), some (.tup ds), none] := by
    have h5 : ev C (.cmp .Eq (.bi .len (.cons (.var 0) .nil)) (.bi .len (.cons (.var 1) .nil))) [some (.tup ds), some (.tup ds), none] = .ok (.bl true) [some (.tup ds), some (.tup ds), none] := by simp [ev, evs, evb, getE, biD, cmpD, e1, e3]
    rw [ev_and h5]
    exact ev_eqnil e7
  have hb : exs C (fnSame s).body [some (.tup ds), some (.tup ds), none] = .ret (.bl true) [some (.tup ds), some (.tup ds), none] := by
    simp only [fnSame, exs, ex, h1, h2, h3, h4, Res.sbind_ok]
  exact runF_ret hb rfl rfl rfl
theorem same_ok {C : CT} {s : Nat} {d : D} {n : Nat} (hd : Deep n d) (hC : ∀ m e, n = m + 1 → Deep m e → C s [e, e] = .ret (.bl true) []) : runF C (fnSame s) [d, d] = .ret (.bl true) [] := by
  cases hd with
  | int _ i => exact same_int C s i
  | bl _ b => exact same_bl C s b
  | non _ => exact same_non C s
  | lst n ds h hl => exact same_lst hl fun d hd => hC n d rfl (h d hd)
  | tup n ds h hl => exact same_tup hl fun d hd => hC n d rfl (h d hd)
end VI
/-! VL: reckoning with lists: comprehensions that only read, walks, sums; data compared with []. -/
namespace VI
open PySem PySem.Spec PyProof.Rows L2
/-! ### plain data -/
/-- plain data of at most this depth -/
def shD : Nat → D → Bool
  | _, .non => true
  | _, .bl _ => true
  | _, .int _ => true
  | _, .str x => PyData.strOk x
  | n + 1, .lst xs => xs.all (shD n)
  | n + 1, .tup xs => xs.all (shD n)
  | _, _ => false
theorem pys_of {f : D → Prop} {n : Nat} : ∀ {xs : List D}, (∀ x ∈ xs, ∃ p, toPy x = some p ∧ p.canLay0 = true ∧ p.depth ≤ n) → ∃ ps, toPys xs = some ps ∧ PyData.canLayAll0 ps = true ∧ PyData.depthAll ps ≤ n ∧ ps.length = xs.length
  | [], _ => ⟨[], by unfold toPys; rfl, rfl, by unfold PyData.depthAll; exact Nat.zero_le _, rfl⟩
  | x :: xs, h => by
    obtain ⟨p, h1, h2, h3⟩ := h x (List.mem_cons_self ..)
    obtain ⟨ps, g1, g2, g3, g4⟩ := pys_of (f := f) fun y hy => h y (List.mem_cons_of_mem _ hy)
    refine ⟨p :: ps, by unfold toPys; rw [h1, g1], ?_, ?_, by simp [g4]⟩
    · unfold PyData.canLayAll0; rw [h2, g2]; rfl
    · unfold PyData.depthAll; exact Nat.max_le.mpr ⟨h3, g3⟩
theorem sh_py : ∀ (n : Nat) (d : D), shD n d = true → ∃ p, toPy d = some p ∧ p.canLay0 = true ∧ p.depth ≤ n
  | n, .non, _ => ⟨.none, by unfold toPy; rfl, by simp [PyData.canLay0], by simp [PyData.depth]⟩
  | n, .bl b, _ => ⟨.bool b, by unfold toPy; rfl, by simp [PyData.canLay0], by simp [PyData.depth]⟩
  | n, .int i, _ => ⟨.int i, by unfold toPy; rfl, by simp [PyData.canLay0], by simp [PyData.depth]⟩
  | n, .str x, h => ⟨.str x, by unfold toPy; rfl, by
      have h : PyData.strOk x = true := by cases n <;> exact h
      simpa [PyData.canLay0] using h, by simp [PyData.depth]⟩
  | n + 1, .lst xs, h => by
    have h : xs.all (shD n) = true := h
    obtain ⟨ps, g1, g2, g3, _⟩ := pys_of (f := fun _ => True) (n := n) (xs := xs) fun x hx => sh_py n x (List.all_eq_true.mp h x hx)
    refine ⟨.list ps, by unfold toPy; rw [g1]; rfl, by simpa [PyData.canLay0] using g2, by unfold PyData.depth; omega⟩
  | n + 1, .tup xs, h => by
    have h : xs.all (shD n) = true := h
    obtain ⟨ps, g1, g2, g3, _⟩ := pys_of (f := fun _ => True) (n := n) (xs := xs) fun x hx => sh_py n x (List.all_eq_true.mp h x hx)
    refine ⟨.tuple ps, by unfold toPy; rw [g1]; rfl, by simpa [PyData.canLay0] using g2, by unfold PyData.depth; omega⟩
  | 0, .lst _, h => by cases h
  | 0, .tup _, h => by cases h
  | 0, .ty _, h => by cases h
  | 0, .fn _, h => by cases h
  | 0, .scr _, h => by cases h
  | 0, .exn _ _, h => by cases h
  | _ + 1, .ty _, h => by cases h
  | _ + 1, .fn _, h => by cases h
  | _ + 1, .scr _, h => by cases h
  | _ + 1, .exn _ _, h => by cases h
theorem sh_shaped {n : Nat} {d : D} (h : shD n d = true) (hn : n ≤ 64) : ∃ p, toPy d = some p ∧ SeqAt.shaped p = true := by
  obtain ⟨p, h1, h2, h3⟩ := sh_py n d h
  exact ⟨p, h1, by unfold SeqAt.shaped; rw [h2, decide_eq_true (Nat.le_trans h3 hn)]; rfl⟩
/-- xs == [] -/
theorem eqD_nil {n : Nat} {xs : List D} (h : xs.all (shD n) = true) (hn : n < 64) : eqD (.lst xs) (.lst []) = some xs.isEmpty := by
  have h1 : shD (n + 1) (.lst xs) = true := h
  obtain ⟨p, e1, e2⟩ := sh_shaped h1 hn
  obtain ⟨q, e3, e4⟩ := sh_shaped (n := 1) (d := .lst []) (by rfl) (by omega)
  unfold eqD
  rw [e1, e3]
  simp only [e2, e4, Bool.and_self, if_true]
  have q1 : q = .list [] := by
    have : toPy (.lst []) = some (.list []) := by unfold toPy toPys; rfl
    rw [this] at e3
    exact (Option.some.inj e3).symm
  subst q1
  obtain ⟨ps, g1, _, _, g4⟩ := pys_of (f := fun _ => True) (n := n) (xs := xs) fun x hx => sh_py n x (List.all_eq_true.mp h x hx)
  have p1 : p = .list ps := by
    have : toPy (.lst xs) = some (.list ps) := by unfold toPy; rw [g1]; rfl
    rw [this] at e1
    exact (Option.some.inj e1).symm
  subst p1
  congr 1
  cases xs with
  | nil =>
    have : ps = [] := List.length_eq_zero_iff.mp g4
    subst this
    simp [PyData.eqv, PyData.eqvAll]
  | cons x xs =>
    cases ps with
    | nil => simp at g4
    | cons p ps => simp [PyData.eqv, PyData.eqvAll]
theorem eqD_nil_ints {xs : List Int} : eqD (.lst (xs.map .int)) (.lst []) = some xs.isEmpty := by
  rw [eqD_nil (n := 0) (by rw [List.all_map]; exact List.all_eq_true.mpr fun _ _ => rfl) (by omega)]
  cases xs <;> rfl
/-! ### lists of ints -/
abbrev dI (xs : List Int) : D := .lst (xs.map .int)
theorem dI_map {α : Type} (f : α → Int) (xs : List α) : dI (xs.map f) = .lst (xs.map fun a => .int (f a)) := by
  show D.lst ((xs.map f).map .int) = _
  rw [List.map_map] <;> rfl
theorem len_dI (xs : List Int) : lenD (dI xs) = some (.int xs.length) := by
  show some (D.int ((xs.map D.int).length : Nat)) = _
  rw [List.length_map]
theorem idx_dI (xs : List Int) (i : Nat) : idxD (dI xs) (.int i) = (xs[i]?).map .int := by
  show atI (xs.map D.int) i = _
  rw [atI_nat, List.getElem?_map]
theorem idx_dI' {xs : List Int} {i : Int} (h0 : 0 ≤ i) (h1 : i < xs.length) : idxD (dI xs) (.int i) = some (.int (xs.getD i.toNat 0)) := by
  obtain ⟨n, rfl⟩ := Int.eq_ofNat_of_zero_le h0
  have hn : n < xs.length := by omega
  have := idx_dI xs n
  rw [List.getElem?_eq_getElem hn] at this
  rw [this]
  simp [hn]
theorem sum_dI (xs : List Int) : biD .sum [dI xs] = some (.int xs.sum) := by
  show (intsOf (xs.map .int)).map (fun ns => D.int ns.sum) = _
  rw [intsOf_map]; rfl
theorem sorted_dI {xs : List Int} (h : xs.length < 64) : biD .sorted [dI xs] = some (dI (sortI xs)) := by
  show (if (xs.map D.int).length < 64 then (intsOf (xs.map D.int)).map (fun ns => D.lst ((sortI ns).map .int)) else none) = _
  rw [List.length_map, if_pos h, intsOf_map]; rfl
/-! ### comprehensions that only read -/
theorem getE_self {env : Env} {i : Nat} (hi : i < env.length) : env.set i (getE env i) = env := by
  refine List.ext_getElem? fun j => ?_
  by_cases h : i = j
  · subst h
    rw [List.getElem?_set_self hi]
    unfold getE
    rw [List.getElem?_eq_getElem hi]
    rfl
  · rw [List.getElem?_set_ne h]
theorem lcD1 {α : Type} {i : Nat} {env : Env} {c : Env → Res Bool} {f : Env → Res D} {p : α → Bool} {g : α → D} {inj : α → D} (hi : i < env.length) : ∀ (xs : List α) (n : Nat) (env' : Env), env'.set i none = env.set i none → n + xs.length ≤ sizeLine →
    (∀ x ∈ xs, c (env.set i (some (inj x))) = .ok (p x) (env.set i (some (inj x)))) → (∀ x ∈ xs, p x = true → f (env.set i (some (inj x))) = .ok (g x) (env.set i (some (inj x)))) →
    ∃ env'', lcD (.nm i) [i] c f (xs.map inj) n env' = .ok ((xs.filter p).map g) env'' ∧ env''.set i none = env.set i none
  | [], n, env', he, _, _, _ => ⟨env', by simp [lcD], he⟩
  | x :: xs, n, env', he, hn, hc, hf => by
    have hl : i < env'.length := by
      have := congrArg List.length he
      simp only [List.length_set] at this
      omega
    have e1 : bindT (.nm i) (inj x) (wipeE env' [i]) = some (env.set i (some (inj x))) := by
      unfold wipeE wipeE bindT
      simp only
      rw [if_pos (by rw [List.length_set]; exact hl), he, List.set_set]
    have hs : (env.set i (some (inj x))).set i none = env.set i none := List.set_set _
    unfold lcD
    rw [List.map_cons]
    simp only
    rw [e1]
    simp only [hc x (List.mem_cons_self ..), Res.bind_ok]
    rw [List.length_cons] at hn
    cases hp : p x with
    | false =>
      obtain ⟨env'', h1, h2⟩ := lcD1 (p := p) (g := g) (inj := inj) (c := c) (f := f) hi xs n _ hs (by omega) (fun y hy => hc y (List.mem_cons_of_mem _ hy)) fun y hy => hf y (List.mem_cons_of_mem _ hy)
      refine ⟨env'', ?_, h2⟩
      simp only
      rw [h1, List.filter_cons_of_neg (by rw [hp]; simp)]
    | true =>
      obtain ⟨env'', h1, h2⟩ := lcD1 (p := p) (g := g) (inj := inj) (c := c) (f := f) hi xs (n + 1) _ hs (by omega) (fun y hy => hc y (List.mem_cons_of_mem _ hy)) fun y hy => hf y (List.mem_cons_of_mem _ hy)
      refine ⟨env'', ?_, h2⟩
      simp only
      rw [hf x (List.mem_cons_self ..) hp]
      simp only [Res.bind_ok]
      rw [if_pos (by omega), h1]
      simp only [Res.bind_ok]
      rw [List.filter_cons_of_pos hp, List.map_cons]
/-- [e for i in it if c], reading only -/
theorem ev_lc1 {α : Type} {C : CT} {i : Nat} {it : II} {c : IO} {e : IE} {env : Env} {p : α → Bool} {g : α → D} {inj : α → D} (xs : List α) (hi : i < env.length) (h1 : evi C it env = .ok (xs.map inj) env) (hl : xs.length ≤ sizeLine)
    (hc : ∀ x ∈ xs, evc C c (env.set i (some (inj x))) = .ok (p x) (env.set i (some (inj x)))) (hf : ∀ x ∈ xs, p x = true → ev C e (env.set i (some (inj x))) = .ok (g x) (env.set i (some (inj x)))) :
    ev C (.lc [i] (.nm i) it c e) env = .ok (.lst ((xs.filter p).map g)) env := by
  obtain ⟨env'', h2, h3⟩ := lcD1 (c := evc C c) (f := ev C e) (p := p) (g := g) (inj := inj) hi xs 0 env rfl (by omega) hc hf
  rw [ev_lc h1 h2]
  have : backE env env'' [i] = env := by
    unfold backE backE
    have : env''.set i (getE env i) = env.set i (getE env i) := by
      have := congrArg (fun z => List.set z i (getE env i)) h3
      simpa [List.set_set] using this
    rw [this, getE_self hi]
  rw [this]
/-- .. without a test -/
theorem ev_lcm {α : Type} {C : CT} {i : Nat} {it : II} {e : IE} {env : Env} {g : α → D} {inj : α → D} (xs : List α) (hi : i < env.length) (h1 : evi C it env = .ok (xs.map inj) env) (hl : xs.length ≤ sizeLine)
    (hf : ∀ x ∈ xs, ev C e (env.set i (some (inj x))) = .ok (g x) (env.set i (some (inj x)))) : ev C (.lc [i] (.nm i) it .none e) env = .ok (.lst (xs.map g)) env := by
  have := ev_lc1 (C := C) (c := .none) (e := e) (p := fun _ => true) (g := g) (inj := inj) xs hi h1 hl (fun x _ => rfl) fun x hx _ => hf x hx
  rw [List.filter_eq_self.mpr (fun _ _ => rfl)] at this
  exact this
theorem lcD2 {α : Type} {i j : Nat} {env : Env} {c : Env → Res Bool} {f : Env → Res D} {p : α → Bool} {g : α → D} {u v : α → D} (hij : i ≠ j) (hi : i < env.length) (hj : j < env.length) : ∀ (xs : List α) (n : Nat) (env' : Env), (env'.set j none).set i none = (env.set j none).set i none → n + xs.length ≤ sizeLine →
    (∀ x ∈ xs, c ((env.set i (some (u x))).set j (some (v x))) = .ok (p x) ((env.set i (some (u x))).set j (some (v x)))) → (∀ x ∈ xs, p x = true → f ((env.set i (some (u x))).set j (some (v x))) = .ok (g x) ((env.set i (some (u x))).set j (some (v x)))) →
    ∃ env'', lcD (.tp [i, j]) [i, j] c f (xs.map fun x => .tup [u x, v x]) n env' = .ok ((xs.filter p).map g) env'' ∧ (env''.set j none).set i none = (env.set j none).set i none
  | [], n, env', he, _, _, _ => ⟨env', by simp [lcD], he⟩
  | x :: xs, n, env', he, hn, hc, hf => by
    have hlen : env'.length = env.length := by
      have := congrArg List.length he
      simpa only [List.length_set] using this
    have e1 : bindT (.tp [i, j]) (.tup [u x, v x]) (wipeE env' [i, j]) = some ((env.set i (some (u x))).set j (some (v x))) := by
      unfold wipeE wipeE wipeE bindT
      simp only
      rw [if_pos (by simp [hi, hj, hlen]), he]
      simp only [List.zip_cons_cons, List.zip_nil_right, List.foldl_cons, List.foldl_nil]
      congr 1
      rw [List.set_set, List.set_comm _ _ (Ne.symm hij), List.set_set]
    have hs : (((env.set i (some (u x))).set j (some (v x))).set j none).set i none = (env.set j none).set i none := by
      rw [List.set_set, List.set_comm _ _ hij, List.set_set]
    unfold lcD
    rw [List.map_cons]
    simp only
    rw [e1]
    simp only [hc x (List.mem_cons_self ..), Res.bind_ok]
    rw [List.length_cons] at hn
    cases hp : p x with
    | false =>
      obtain ⟨env'', h1, h2⟩ := lcD2 (p := p) (g := g) (u := u) (v := v) (c := c) (f := f) hij hi hj xs n _ hs (by omega) (fun y hy => hc y (List.mem_cons_of_mem _ hy)) fun y hy => hf y (List.mem_cons_of_mem _ hy)
      refine ⟨env'', ?_, h2⟩
      simp only
      rw [h1, List.filter_cons_of_neg (by rw [hp]; simp)]
    | true =>
      obtain ⟨env'', h1, h2⟩ := lcD2 (p := p) (g := g) (u := u) (v := v) (c := c) (f := f) hij hi hj xs (n + 1) _ hs (by omega) (fun y hy => hc y (List.mem_cons_of_mem _ hy)) fun y hy => hf y (List.mem_cons_of_mem _ hy)
      refine ⟨env'', ?_, h2⟩
      simp only
      rw [hf x (List.mem_cons_self ..) hp]
      simp only [Res.bind_ok]
      rw [if_pos (by omega), h1]
      simp only [Res.bind_ok]
      rw [List.filter_cons_of_pos hp, List.map_cons]
/-- [e for i, j in it], reading only -/
theorem ev_lcm2 {α : Type} {C : CT} {i j : Nat} {it : II} {e : IE} {env : Env} {g : α → D} {u v : α → D} (xs : List α) (hij : i ≠ j) (hi : i < env.length) (hj : j < env.length) (h1 : evi C it env = .ok (xs.map fun x => .tup [u x, v x]) env) (hl : xs.length ≤ sizeLine)
    (hf : ∀ x ∈ xs, ev C e ((env.set i (some (u x))).set j (some (v x))) = .ok (g x) ((env.set i (some (u x))).set j (some (v x)))) : ev C (.lc [i, j] (.tp [i, j]) it .none e) env = .ok (.lst (xs.map g)) env := by
  obtain ⟨env'', h2, h3⟩ := lcD2 (c := evc C .none) (f := ev C e) (p := fun _ => true) (g := g) (u := u) (v := v) hij hi hj xs 0 env rfl (by omega) (fun x _ => rfl) fun x hx _ => hf x hx
  rw [List.filter_eq_self.mpr (fun _ _ => rfl)] at h2
  rw [ev_lc h1 h2]
  have hlen : env''.length = env.length := by
    have := congrArg List.length h3
    simpa only [List.length_set] using this
  have : backE env env'' [i, j] = env := by
    unfold backE backE backE
    have e1 : (env''.set j (getE env j)).set i (getE env i) = (env.set j (getE env j)).set i (getE env i) := by
      have key : ∀ (z : Env) (a b : Option D), (z.set j a).set i b = ((((z.set j none).set i none).set j a).set i b) := fun z a b => by
        rw [List.set_comm none a hij, List.set_set, List.set_set]
      rw [key env'', key env, h3]
    rw [e1, getE_self hj, getE_self hi]
  rw [this]
/-- [e for i in it], e draws numbers -/
theorem lcD_draw {i M : Nat} {mk : D → Option D → VI.Env} {f : VI.Env → Res D} {Y : D → Prop} (hb : ∀ g o x, bindT (.nm i) x (wipeE (mk g o) [i]) = some (mk g (some x))) : ∀ (ds : List D) (n m : Nat) (g : D) (o : Option D), n + ds.length ≤ sizeLine → Gn m g → m + 101 * ds.length ≤ M → (∀ m g x, x ∈ ds → Gn m g → m < M → ∃ y g', f (mk g (some x)) = .ok y (mk g' (some x)) ∧ Y y ∧ Gn (m + 101) g') →
    ∃ ys g' o', lcD (.nm i) [i] (fun env => .ok true env) f ds n (mk g o) = .ok ys (mk g' o') ∧ ys.length = ds.length ∧ (∀ y ∈ ys, Y y) ∧ Gn (m + 101 * ds.length) g'
  | [], n, m, g, o, _, hg, _, _ => ⟨[], g, o, by simp [lcD], rfl, by simp, by simpa using hg⟩
  | x :: ds, n, m, g, o, hn, hg, hm, hf => by
    rw [List.length_cons] at hn hm
    obtain ⟨y, g1, e1, y1, q1⟩ := hf m g x (List.mem_cons_self ..) hg (by omega)
    obtain ⟨ys, g2, o2, e2, l2, y2, q2⟩ := lcD_draw (Y := Y) (f := f) hb ds (n + 1) (m + 101) g1 (some x) (by omega) q1 (by omega) fun m g x hx => hf m g x (List.mem_cons_of_mem _ hx)
    refine ⟨y :: ys, g2, o2, ?_, by simp [l2], fun z hz => ?_, ?_⟩
    · unfold lcD
      rw [hb]
      simp only [Res.bind_ok]
      rw [e1]
      simp only [Res.bind_ok]
      rw [if_pos (by omega), e2]
      simp only [Res.bind_ok]
    · rcases List.mem_cons.mp hz with rfl | hz
      · exact y1
      · exact y2 z hz
    · rw [List.length_cons, Nat.mul_add, Nat.mul_one, Nat.add_comm (101 * ds.length), ← Nat.add_assoc]; exact q2
/-! ### walks -/
/-- a walk that always goes on -/
theorem forD_run {β : Type} {t : IT} {b : Env → SRes} {mk : β → Option D → Env} {f : β → D → β} {P : β → Prop} : ∀ (xs : List D), (∀ s x o, x ∈ xs → P s → bindT t x (mk s o) = some (mk s (some x)) ∧ b (mk s (some x)) = .next (mk (f s x) (some x)) ∧ P (f s x)) → ∀ s o, P s → ∃ o', forD t b xs (mk s o) = .next (mk (xs.foldl f s) o') ∧ P (xs.foldl f s)
  | [], _, s, o, hs => ⟨o, rfl, hs⟩
  | x :: xs, h, s, o, hs => by
    obtain ⟨h1, h2, h3⟩ := h s x o (List.mem_cons_self ..) hs
    obtain ⟨o', h4, h5⟩ := forD_run (f := f) (P := P) xs (fun s y o hy => h s y o (List.mem_cons_of_mem _ hy)) (f s x) (some x) h3
    refine ⟨o', ?_, h5⟩
    unfold forD
    rw [h1]
    simp only [h2]
    exact h4
/-- .. with the number of turns -/
theorem forD_runI {β : Type} {t : IT} {b : Env → SRes} {mk : β → Option D → Env} {f : β → D → β} {P : Nat → β → Prop} : ∀ (xs : List D) (i : Nat), (∀ i s x o, x ∈ xs → P i s → bindT t x (mk s o) = some (mk s (some x)) ∧ b (mk s (some x)) = .next (mk (f s x) (some x)) ∧ P (i + 1) (f s x)) → ∀ s o, P i s → ∃ o', forD t b xs (mk s o) = .next (mk (xs.foldl f s) o') ∧ P (i + xs.length) (xs.foldl f s)
  | [], _, _, s, o, hs => ⟨o, rfl, hs⟩
  | x :: xs, i, h, s, o, hs => by
    obtain ⟨h1, h2, h3⟩ := h i s x o (List.mem_cons_self ..) hs
    obtain ⟨o', h4, h5⟩ := forD_runI (f := f) (P := P) xs (i + 1) (fun i s y o hy => h i s y o (List.mem_cons_of_mem _ hy)) (f s x) (some x) h3
    refine ⟨o', ?_, by rw [List.length_cons, Nat.add_comm xs.length 1, ← Nat.add_assoc]; exact h5⟩
    unfold forD
    rw [h1]
    simp only [h2]
    exact h4
/-- .. whatever the walk's own names hold -/
theorem forD_runG {α β O : Type} {t : IT} {b : VI.Env → SRes} {mk : β → O → VI.Env} {inj : α → D} {f : β → α → β} {P : Nat → β → Prop} : ∀ (xs : List α) (i : Nat), (∀ i s x o, x ∈ xs → P i s → ∃ env1 o1, bindT t (inj x) (mk s o) = some env1 ∧ b env1 = .next (mk (f s x) o1) ∧ P (i + 1) (f s x)) → ∀ s o, P i s → ∃ o', forD t b (xs.map inj) (mk s o) = .next (mk (xs.foldl f s) o') ∧ P (i + xs.length) (xs.foldl f s)
  | [], _, _, s, o, hs => ⟨o, rfl, hs⟩
  | x :: xs, i, h, s, o, hs => by
    obtain ⟨env1, o1, h1, h2, h3⟩ := h i s x o (List.mem_cons_self ..) hs
    obtain ⟨o', h4, h5⟩ := forD_runG (f := f) (P := P) xs (i + 1) (fun i s y o hy => h i s y o (List.mem_cons_of_mem _ hy)) (f s x) o1 h3
    refine ⟨o', ?_, by rw [List.length_cons, Nat.add_comm xs.length 1, ← Nat.add_assoc]; exact h5⟩
    rw [List.map_cons]
    unfold forD
    rw [h1]
    simp only [h2]
    exact h4
/-- a walk that ends at the first that fits -/
theorem forD_find {α : Type} {t : IT} {b : VI.Env → SRes} {mk : Option D → VI.Env} {inj : α → D} {p : α → Bool} {dd : α → D} : ∀ (xs : List α), (∀ x o, x ∈ xs → bindT t (inj x) (mk o) = some (mk (some (inj x))) ∧ b (mk (some (inj x))) = if p x = true then .ret (dd x) (mk (some (inj x))) else .next (mk (some (inj x)))) → ∀ o, ∃ o', forD t b (xs.map inj) (mk o) = match xs.find? p with
    | some x => .ret (dd x) (mk o')
    | none => .next (mk o')
  | [], _, o => ⟨o, rfl⟩
  | x :: xs, h, o => by
    obtain ⟨h1, h2⟩ := h x o (List.mem_cons_self ..)
    rw [List.map_cons]
    unfold forD
    rw [h1]
    simp only [h2]
    cases hp : p x with
    | true => exact ⟨some (inj x), by simp [List.find?_cons, hp]⟩
    | false =>
      obtain ⟨o', h3⟩ := forD_find (p := p) (dd := dd) (mk := mk) xs (fun y o hy => h y o (List.mem_cons_of_mem _ hy)) (some (inj x))
      refine ⟨o', ?_⟩
      simp only [Bool.false_eq_true, if_false, List.find?_cons, hp]
      exact h3
/-- .. the turn's number below m -/
theorem forD_runB {α β O : Type} {t : IT} {b : VI.Env → SRes} {mk : β → O → VI.Env} {inj : α → D} {f : β → α → β} {P : Nat → β → Prop} {m : Nat} : ∀ (xs : List α) (i : Nat), i + xs.length ≤ m → (∀ i s x o, x ∈ xs → i < m → P i s → ∃ env1 o1, bindT t (inj x) (mk s o) = some env1 ∧ b env1 = .next (mk (f s x) o1) ∧ P (i + 1) (f s x)) → ∀ s o, P i s → ∃ o', forD t b (xs.map inj) (mk s o) = .next (mk (xs.foldl f s) o') ∧ P (i + xs.length) (xs.foldl f s)
  | [], _, _, _, s, o, hs => ⟨o, rfl, hs⟩
  | x :: xs, i, hm, h, s, o, hs => by
    rw [List.length_cons] at hm
    obtain ⟨env1, o1, h1, h2, h3⟩ := h i s x o (List.mem_cons_self ..) (by omega) hs
    obtain ⟨o', h4, h5⟩ := forD_runB (f := f) (P := P) (m := m) xs (i + 1) (by omega) (fun i s y o hy => h i s y o (List.mem_cons_of_mem _ hy)) (f s x) o1 h3
    refine ⟨o', ?_, by rw [List.length_cons, Nat.add_comm xs.length 1, ← Nat.add_assoc]; exact h5⟩
    rw [List.map_cons]
    unfold forD
    rw [h1]
    simp only [h2]
    exact h4
/-- .. within a block over a list of lists -/
theorem forDd_run {α β O : Type} {t : IT} {b : List (List D) → VI.Env → DR} {mk : O → VI.Env} {enc : β → List (List D)} {inj : α → D} {f : β → α → β} {P : Nat → β → Prop} {m : Nat} : ∀ (xs : List α) (i : Nat), i + xs.length ≤ m → (∀ i s x o, x ∈ xs → i < m → P i s → ∃ env1 o1, bindT t (inj x) (mk o) = some env1 ∧ b (enc s) env1 = .next (enc (f s x)) (mk o1) ∧ P (i + 1) (f s x)) → ∀ s o, P i s → ∃ o', forDd t b (xs.map inj) (enc s) (mk o) = .next (enc (xs.foldl f s)) (mk o') ∧ P (i + xs.length) (xs.foldl f s)
  | [], _, _, _, s, o, hs => ⟨o, rfl, hs⟩
  | x :: xs, i, hm, h, s, o, hs => by
    rw [List.length_cons] at hm
    obtain ⟨env1, o1, h1, h2, h3⟩ := h i s x o (List.mem_cons_self ..) (by omega) hs
    obtain ⟨o', h4, h5⟩ := forDd_run (f := f) (P := P) (enc := enc) (m := m) xs (i + 1) (by omega) (fun i s y o hy => h i s y o (List.mem_cons_of_mem _ hy)) (f s x) o1 h3
    refine ⟨o', ?_, by rw [List.length_cons, Nat.add_comm xs.length 1, ← Nat.add_assoc]; exact h5⟩
    rw [List.map_cons]
    unfold forDd
    rw [h1]
    simp only [h2]
    exact h4
theorem enum_dI : ∀ (xs : List Int) (s : Nat), enumD s (xs.map .int) = (List.range xs.length).map fun i => D.tup [.int ((s + i : Nat) : Int), .int (xs.getD i 0)]
  | [], s => rfl
  | x :: xs, s => by
    show D.tup [.int s, .int x] :: enumD (s + 1) (xs.map .int) = _
    rw [enum_dI xs (s + 1), List.length_cons, List.range_succ_eq_map, List.map_cons, List.map_map]
    congr 1
    refine List.map_congr_left fun i _ => ?_
    simp [Nat.add_assoc, Nat.add_comm]
    omega
theorem range_dI : ∀ (n : Nat) (lo : Int), rangeD lo n = (List.range n).map fun i => D.int (lo + (i : Nat))
  | 0, _ => rfl
  | n + 1, lo => by
    show D.int lo :: rangeD (lo + 1) n = _
    rw [range_dI n (lo + 1), List.range_succ_eq_map, List.map_cons, List.map_map]
    congr 1
    · simp
    · refine List.map_congr_left fun i _ => ?_
      show D.int _ = D.int _
      congr 1
      simp only [Nat.succ_eq_add_one]
      omega
theorem mul_rep {d : D} {n : Nat} (hn : n ≤ 100000) : mulD (.lst [d]) (.int n) = some (.lst (List.replicate n d)) := by
  have h : -(2 ^ 63) ≤ (n : Int) ∧ (n : Int) < 2 ^ 63 ∧ [d].length * (n : Int).toNat ≤ sizeLine := by
    refine ⟨by omega, by omega, ?_⟩
    rw [List.length_singleton, Nat.one_mul, Int.toNat_natCast]
    exact sz_le hn
  unfold mulD
  simp only
  rw [if_pos h]
  simp
theorem sz0 : (0 < sizeLine) = True := eq_true (Nat.lt_of_lt_of_le (by omega : 0 < 1) (sz_le (n := 1) (by omega)))
theorem sz1 : (1 ≤ sizeLine) = True := eq_true (sz_le (n := 1) (by omega))
theorem sz2 : (2 ≤ sizeLine) = True := eq_true (sz_le (n := 2) (by omega))
theorem sz3 : (3 ≤ sizeLine) = True := eq_true (sz_le (n := 3) (by omega))
theorem sz4 : (4 ≤ sizeLine) = True := eq_true (sz_le (n := 4) (by omega))
theorem sz5 : (5 ≤ sizeLine) = True := eq_true (sz_le (n := 5) (by omega))
theorem sz6 : (6 ≤ sizeLine) = True := eq_true (sz_le (n := 6) (by omega))
theorem ixN_of {n : Nat} {i : Int} (h0 : 0 ≤ i) (h1 : i < n) : ixN n i = some i.toNat := by
  unfold ixN
  rw [if_pos h0, if_pos h1]
theorem ext_list {xs ys : List Int} (hl : xs.length = ys.length) (h : ∀ i, i < xs.length → xs.getD i 0 = ys.getD i 0) : xs = ys := by
  refine List.ext_getElem hl fun i h1 h2 => ?_
  have := h i h1
  simpa [h1, h2] using this
/-! ### one step behind another -/
section
variable {C : CT} {env env1 env2 : Env} {e a b : IE} {d x y : D} {s : IS} {ss : ISs}
theorem exs_nil : exs C .nil env = .next env := by unfold exs; rfl
theorem exs_next (h : ex C s env = .next env1) : exs C (.cons s ss) env = exs C ss env1 := by
  rw [exs, h]
theorem exs_ret (h : ex C s env = .ret d env1) : exs C (.cons s ss) env = .ret d env1 := by
  rw [exs, h]
theorem ex_set {i : Nat} {f : Bool} (h : ev C e env = .ok d env1) (hf : f = true → isL d = true) (hi : i < env1.length) : ex C (.set (.nm i) f e) env = .next (env1.set i (some d)) := by
  unfold ex
  rw [h]
  simp only [Res.sbind_ok]
  have : (f && !isL d) = false := by
    cases f with
    | false => rfl
    | true => rw [hf rfl]; rfl
  rw [this]
  unfold bindT
  simp only [hi, if_true, Bool.false_eq_true, if_false]
theorem ex_par {i j : Nat} (ha : ev C a env = .ok x env1) (hb : ev C b env1 = .ok y env2) (h : i < env2.length ∧ j < env2.length) : ex C (.par i j a b) env = .next ((env2.set i (some x)).set j (some y)) := by
  unfold ex
  rw [ha]
  simp only [Res.sbind_ok]
  rw [hb]
  simp only [Res.sbind_ok]
  rw [if_pos h]
theorem ev_ife {c : IE} {t : Bool} (h : ev C c env = .ok (.bl t) env1) : ev C (.ife c a b) env = if t = true then ev C a env1 else ev C b env1 := by
  rw [ev, h]
  cases t <;> rfl
theorem ev_idx (ha : ev C a env = .ok x env1) (hb : ev C b env1 = .ok y env2) (h : idxD x y = some d) : ev C (.idx a b) env = .ok d env2 := by
  rw [ev, ha]
  simp only [Res.bind_ok]
  rw [hb]
  simp only [Res.bind_ok]
  rw [h]
  rfl
theorem ex_ret (h : ev C e env = .ok d env1) : ex C (.ret e) env = .ret d env1 := by
  unfold ex
  rw [h]
  rfl
theorem ex_expr (h : ev C e env = .ok d env1) : ex C (.expr e) env = .next env1 := by
  unfold ex
  rw [h]
  rfl
theorem ex_for {t : IT} {it : II} {w : ISs} {ds : List D} (h : evi C it env = .ok ds env1) : ex C (.for_ t it w) env = forD t (exs C w) ds env1 := by
  unfold ex
  rw [h]
  rfl
theorem ex_whl {c : IE} {w : ISs} : ex C (.whl c w) env = whD (evb C c) (exs C w) env := by
  unfold ex
  rfl
theorem ex_app {i : Nat} {d0 : D} {xs : List D} (h0 : getE env i = some d0) (h : ev C e env = .ok d env1) (h1 : getE env1 i = some (.lst xs)) (hl : xs.length < sizeLine) : ex C (.app i e) env = .next (env1.set i (some (.lst (xs ++ [d])))) := by
  unfold ex
  rw [h0]
  simp only [h, Res.sbind_ok, h1]
  rw [if_pos hl]
theorem ex_if {c : IE} {t : Bool} {u v : ISs} (h : evb C c env = .ok t env1) : ex C (.ifs c u v) env = if t = true then exs C u env1 else exs C v env1 := by
  unfold ex
  rw [h]
  cases t <;> rfl
theorem ex_frz {i : Nat} : ex C (.frz i) env = .next env := by
  unfold ex
  rfl
theorem ev_bi1 {b : BI} (h : ev C e env = .ok x env1) (hb : biD b [x] = some d) : ev C (.bi b (.cons e .nil)) env = .ok d env1 := by
  rw [ev, evs, h]
  simp only [Res.bind_ok, evs]
  rw [hb]
  rfl
theorem ev_bin {op : Operator} (ha : ev C a env = .ok x env1) (hb : ev C b env1 = .ok y env2) (h : binD op x y = some d) : ev C (.bin op a b) env = .ok d env2 := by
  unfold ev
  rw [ha]
  simp only [Res.bind_ok]
  rw [hb]
  simp only [Res.bind_ok]
  rw [h]
  rfl
end
theorem cutL_take {α : Type} (xs : List α) {p : Nat} (h : p ≤ xs.length) : cutL xs none (some (p : Int)) = xs.take p := by
  unfold cutL HT.sIx
  have h1 : ¬ (p : Int) < 0 := by omega
  simp [h1, Nat.min_eq_left h]
theorem cutL_drop {α : Type} (xs : List α) {p : Nat} (h : p ≤ xs.length) : cutL xs (some (p : Int)) none = xs.drop p := by
  unfold cutL HT.sIx
  have h1 : ¬ (p : Int) < 0 := by omega
  simp only [h1, if_false, Int.toNat_natCast, Nat.min_eq_left h]
  exact List.take_of_length_le (by rw [List.length_drop]; omega)
theorem ev_popI {C : CT} {env env1 : VI.Env} {i : Nat} {es : IEs} {d0 : D} {xs : List D} {z : Int} {j : Nat} (h0 : getE env i = some d0) (h : evs C es env = .ok [.int z] env1) (h1 : getE env1 i = some (.lst xs)) (hz : z = (j : Nat)) (hj : j < xs.length) (hl : xs.length ≤ 100000) : ev C (.pop i es) env = .ok xs[j] (env1.set i (some (.lst (xs.eraseIdx j)))) := by
  subst hz
  have e1 : seqIndex? (j : Int) xs.length = some j := (L2.ixN_seq (by rw [ixN_of (by omega) (by omega), Int.toNat_natCast])).1
  unfold ev
  rw [h0]
  simp only [h, Res.bind_ok, h1]
  rw [if_pos (by omega), e1]
  simp only
  rw [List.getElem?_eq_getElem hj]
theorem eq_bl (a b : Bool) : eqD (.bl a) (.bl b) = some (a == b) := by
  unfold eqD toPy SeqAt.shaped PyData.canLay0 PyData.depth PyData.eqv
  rfl
theorem enum_D : ∀ (xs : List D) (s : Nat), enumD s xs = (List.range xs.length).map fun i => D.tup [.int ((s + i : Nat) : Int), xs.getD i .non]
  | [], s => rfl
  | x :: xs, s => by
    show D.tup [.int s, x] :: enumD (s + 1) xs = _
    rw [enum_D xs (s + 1), List.length_cons, List.range_succ_eq_map, List.map_cons, List.map_map]
    congr 1
    refine List.map_congr_left fun i _ => ?_
    simp [Nat.add_assoc, Nat.add_comm]
    omega
theorem all_D {α : Type} (xs : List α) : biD .all [.lst (xs.map fun _ => D.bl true)] = some (.bl true) := by
  show (blsOf (xs.map fun _ => D.bl true)).map (fun bs => D.bl (bs.all id)) = _
  have : blsOf (xs.map fun _ => D.bl true) = some (xs.map fun _ => true) := by
    induction xs with
    | nil => rfl
    | cons x xs ih =>
      show (blsOf (xs.map fun _ => D.bl true)).map (true :: ·) = _
      rw [ih]; rfl
  rw [this]
  simp
/-- ints, truths, lists of such -/
inductive Pl : Nat → D → Prop where
  | int (n : Nat) (i : Int) : Pl n (.int i)
  | bl (n : Nat) (b : Bool) : Pl n (.bl b)
  | lst (n : Nat) (ds : List D) (h : ∀ d ∈ ds, Pl n d) (hl : ds.length ≤ 100000) : Pl (n + 1) (.lst ds)
theorem er_map {α β : Type} (f : α → β) : ∀ (l : List α) (j : Nat), (l.map f).eraseIdx j = (l.eraseIdx j).map f
  | [], _ => rfl
  | x :: l, 0 => rfl
  | x :: l, j + 1 => by simp [er_map f l j]
theorem er_perm {α : Type} : ∀ (l : List α) (j : Nat) (h : j < l.length), (l[j] :: l.eraseIdx j).Perm l
  | x :: l, 0, _ => List.Perm.refl _
  | x :: l, j + 1, h => by
    have h' : j < l.length := by simpa using h
    simp only [List.getElem_cons_succ, List.eraseIdx_cons_succ]
    exact (List.Perm.swap _ _ _).trans ((er_perm l j h').cons x)
end VI
namespace LT
open PySem PySem.Spec PyProof.Rows L2 VI
def top (i : Nat) : Stmt := PySem.Challenge.pw_joborders_k07_whole_waiting_obeys.main.body.getD i (.Pass ⟨0, 0, 0, 0⟩)
abbrev dd (i : Nat) (x : Str) : He.DefD := ⟨(x, none), x, x, defArgs (top i), defBody (top i), defScope (top i), [], []⟩
/-- is_whole -/
def f_0 : Fn := ⟨"is_whole", 1, 1, [], false, (.cons (.ret (.and (.bi .isi (.cons (.var 0) (.cons (.ty "int") .nil))) (.not (.bi .isi (.cons (.var 0) (.cons (.ty "bool") .nil)))))) .nil)⟩
/-- is_count -/
def f_1 : Fn := ⟨"is_count", 1, 1, [], false, (.cons (.ret (.and (.call 0 (.cons (.var 0) .nil)) (.cmp .GtE (.var 0) (.int 0)))) .nil)⟩
/-- is_below -/
def f_2 : Fn := ⟨"is_below", 2, 2, [], false, (.cons (.ret (.and (.call 1 (.cons (.var 0) .nil)) (.cmp .Lt (.var 0) (.var 1)))) .nil)⟩
/-- are_counts -/
def l_3_0 : IE := (.lc [4] (.nm 4) (.val (.var 0)) (.some (.or (.not (.call 1 (.cons (.var 4) .nil))) (.not (.chn .LtE .LtE (.var 2) (.var 4) (.var 3))))) (.var 4))
def f_3 : Fn := ⟨"are_counts", 4, 5, [], false, (.cons (.ifs (.or (.not (.bi .isi (.cons (.var 0) (.cons (.ty "list") .nil)))) (.cmp .NotEq (.bi .len (.cons (.var 0) .nil)) (.var 1))) (.cons (.ret (.bl false)) .nil) .nil) (.cons (.ret (.cmp .Eq l_3_0 (.lst .nil))) .nil))⟩
/-- are_times -/
def f_4 : Fn := ⟨"are_times", 1, 1, [], false, (.cons (.ret (.and (.bi .isi (.cons (.var 0) (.cons (.ty "list") .nil))) (.and (.chn .LtE .LtE (.int 1) (.bi .len (.cons (.var 0) .nil)) (.int 12)) (.call 3 (.cons (.var 0) (.cons (.bi .len (.cons (.var 0) .nil)) (.cons (.int 1) (.cons (.int 1000) .nil)))))))) .nil)⟩
/-- check_times -/
def f_5 : Fn := ⟨"check_times", 1, 1, [], false, (.cons (.ifs (.not (.call 4 (.cons (.var 0) .nil))) (.cons (.raise 0 (.var 0)) .nil) .nil) .nil)⟩
/-- are_weights_of -/
def f_6 : Fn := ⟨"are_weights_of", 2, 2, [], false, (.cons (.ret (.call 3 (.cons (.var 1) (.cons (.var 0) (.cons (.int 0) (.cons (.int 1000) .nil)))))) .nil)⟩
/-- check_weights -/
def f_7 : Fn := ⟨"check_weights", 2, 2, [], false, (.cons (.ifs (.not (.call 6 (.cons (.var 0) (.cons (.var 1) .nil)))) (.cons (.raise 1 (.var 1)) .nil) .nil) .nil)⟩
/-- check_job -/
def f_8 : Fn := ⟨"check_job", 2, 2, [], false, (.cons (.ifs (.not (.call 2 (.cons (.var 1) (.cons (.var 0) .nil)))) (.cons (.raise 3 (.var 1)) .nil) .nil) .nil)⟩
/-- is_row_of -/
def l_9_0 : IE := (.lc [2] (.nm 2) (.val (.var 1)) (.some (.not (.call 2 (.cons (.var 2) (.cons (.var 0) .nil))))) (.var 2))
def f_9 : Fn := ⟨"is_row_of", 2, 3, [], false, (.cons (.ifs (.or (.not (.bi .isi (.cons (.var 1) (.cons (.ty "list") .nil)))) (.or (.cmp .NotEq (.bi .len (.cons (.var 1) .nil)) (.var 0)) (.cmp .NotEq l_9_0 (.lst .nil)))) (.cons (.ret (.bl false)) .nil) .nil) (.cons (.ret (.cmp .Eq (.lenset (.var 1)) (.var 0))) .nil))⟩
/-- check_jobs -/
def f_10 : Fn := ⟨"check_jobs", 2, 2, [], false, (.cons (.expr (.call 5 (.cons (.var 0) .nil))) (.cons (.expr (.call 7 (.cons (.bi .len (.cons (.var 0) .nil)) (.cons (.var 1) .nil)))) .nil))⟩
/-- check_any_row -/
def f_11 : Fn := ⟨"check_any_row", 2, 2, [], false, (.cons (.ifs (.not (.call 9 (.cons (.bi .len (.cons (.var 0) .nil)) (.cons (.var 1) .nil)))) (.cons (.raise 2 (.var 1)) .nil) .nil) .nil)⟩
/-- ends_of -/
def w_12_0 : ISs := (.cons (.set (.nm 3) false (.bin .Add (.var 3) (.idx (.var 0) (.var 4)))) (.cons (.seti 2 (.var 4) (.var 3)) .nil))
def f_12 : Fn := ⟨"ends_of", 2, 5, [], false, (.cons (.set (.nm 2) true (.bin .Mult (.lst (.cons (.int 0) .nil)) (.bi .len (.cons (.var 0) .nil)))) (.cons (.set (.nm 3) false (.int 0)) (.cons (.for_ (.nm 4) (.val (.var 1)) w_12_0) (.cons (.frz 2) (.cons (.ret (.var 2)) .nil)))))⟩
/-- cost_of -/
def l_13_0 : IE := (.lc [4, 5] (.tp [4, 5]) (.enum (.var 1)) .none (.bin .Mult (.var 5) (.idx (.var 3) (.var 4))))
def f_13 : Fn := ⟨"cost_of", 3, 6, [], false, (.cons (.set (.nm 3) false (.call 12 (.cons (.var 0) (.cons (.var 2) .nil)))) (.cons (.ret (.bi .sum (.cons l_13_0 .nil))) .nil))⟩
/-- gain_of -/
def f_14 : Fn := ⟨"gain_of", 4, 4, [], false, (.cons (.ret (.bin .Sub (.bin .Mult (.idx (.var 1) (.var 3)) (.idx (.var 0) (.var 2))) (.bin .Mult (.idx (.var 1) (.var 2)) (.idx (.var 0) (.var 3))))) .nil)⟩
/-- waiting_cost -/
def f_15 : Fn := ⟨"waiting_cost", 3, 3, [], false, (.cons (.expr (.call 10 (.cons (.var 0) (.cons (.var 1) .nil)))) (.cons (.expr (.call 11 (.cons (.var 0) (.cons (.var 2) .nil)))) (.cons (.ret (.call 13 (.cons (.var 0) (.cons (.var 1) (.cons (.var 2) .nil))))) .nil)))⟩
/-- least_of -/
def w_16_0 : ISs := (.cons (.set (.nm 2) false (.bin .Add (.var 2) (.bi .min (.cons (.bin .Mult (.idx (.var 1) (.var 3)) (.idx (.var 0) (.var 5))) (.cons (.bin .Mult (.idx (.var 1) (.var 5)) (.var 4)) .nil))))) .nil)
def w_16_1 : ISs := (.cons (.set (.nm 2) false (.bin .Add (.var 2) (.bin .Mult (.idx (.var 1) (.var 3)) (.var 4)))) (.cons (.for_ (.nm 5) (.rng (.var 3)) w_16_0) .nil))
def f_16 : Fn := ⟨"least_of", 2, 6, [], false, (.cons (.set (.nm 2) false (.int 0)) (.cons (.for_ (.tp [3, 4]) (.enum (.var 0)) w_16_1) (.cons (.ret (.var 2)) .nil)))⟩
/-- least_waiting -/
def f_17 : Fn := ⟨"least_waiting", 2, 2, [], false, (.cons (.expr (.call 10 (.cons (.var 0) (.cons (.var 1) .nil)))) (.cons (.ret (.call 16 (.cons (.var 0) (.cons (.var 1) .nil)))) .nil))⟩
/-- by_ratio -/
def c_18_0 : IE := (.cmp .NotEq (.var 2) (.lst .nil))
def w_18_1 : ISs := (.cons (.ifs (.cmp .Gt (.call 14 (.cons (.var 0) (.cons (.var 1) (.cons (.var 4) (.cons (.var 5) .nil))))) (.int 0)) (.cons (.set (.nm 4) false (.var 5)) .nil) .nil) .nil)
def l_18_2 : IE := (.lc [5] (.nm 5) (.val (.var 2)) (.some (.cmp .NotEq (.var 5) (.var 4))) (.var 5))
def w_18_3 : ISs := (.cons (.set (.nm 4) false (.idx (.var 2) (.int 0))) (.cons (.for_ (.nm 5) (.val (.var 2)) w_18_1) (.cons (.app 3 (.var 4)) (.cons (.set (.nm 2) false l_18_2) .nil))))
def f_18 : Fn := ⟨"by_ratio", 2, 6, [], false, (.cons (.set (.nm 2) false (.lrg (.bi .len (.cons (.var 0) .nil)))) (.cons (.set (.nm 3) true (.lst .nil)) (.cons (.whl c_18_0 w_18_3) (.cons (.frz 3) (.cons (.ret (.var 3)) .nil)))))⟩
/-- best_waiting_row -/
def f_19 : Fn := ⟨"best_waiting_row", 2, 2, [], false, (.cons (.expr (.call 10 (.cons (.var 0) (.cons (.var 1) .nil)))) (.cons (.ret (.call 18 (.cons (.var 0) (.cons (.var 1) .nil)))) .nil))⟩
/-- is_best_of -/
def l_20_0 : IE := (.lc [3] (.nm 3) (.rng2 (.int 1) (.bi .len (.cons (.var 2) .nil))) (.some (.cmp .Gt (.call 14 (.cons (.var 0) (.cons (.var 1) (.cons (.idx (.var 2) (.bin .Sub (.var 3) (.int 1))) (.cons (.idx (.var 2) (.var 3)) .nil))))) (.int 0))) (.var 3))
def f_20 : Fn := ⟨"is_best_of", 3, 4, [], false, (.cons (.ret (.cmp .Eq l_20_0 (.lst .nil))) .nil)⟩
/-- is_best_waiting_row -/
def f_21 : Fn := ⟨"is_best_waiting_row", 3, 3, [], false, (.cons (.expr (.call 10 (.cons (.var 0) (.cons (.var 1) .nil)))) (.cons (.ret (.and (.call 9 (.cons (.bi .len (.cons (.var 0) .nil)) (.cons (.var 2) .nil))) (.call 20 (.cons (.var 0) (.cons (.var 1) (.cons (.var 2) .nil)))))) .nil))⟩
/-- gain -/
def f_22 : Fn := ⟨"gain", 4, 4, [], false, (.cons (.expr (.call 10 (.cons (.var 0) (.cons (.var 1) .nil)))) (.cons (.expr (.call 11 (.cons (.var 0) (.cons (.var 2) .nil)))) (.cons (.ifs (.not (.call 2 (.cons (.var 3) (.cons (.bin .Sub (.bi .len (.cons (.var 2) .nil)) (.int 1)) .nil)))) (.cons (.raise 4 (.var 3)) .nil) .nil) (.cons (.ret (.call 14 (.cons (.var 0) (.cons (.var 1) (.cons (.idx (.var 2) (.var 3)) (.cons (.idx (.var 2) (.bin .Add (.var 3) (.int 1))) .nil)))))) .nil))))⟩
/-- first_gain -/
def w_23_0 : ISs := (.cons (.ifs (.cmp .Gt (.call 14 (.cons (.var 0) (.cons (.var 1) (.cons (.idx (.var 2) (.var 3)) (.cons (.idx (.var 2) (.bin .Add (.var 3) (.int 1))) .nil))))) (.int 0)) (.cons (.ret (.var 3)) .nil) .nil) .nil)
def f_23 : Fn := ⟨"first_gain", 3, 4, [], false, (.cons (.for_ (.nm 3) (.rng (.bin .Sub (.bi .len (.cons (.var 2) .nil)) (.int 1))) w_23_0) (.cons (.ret .non) .nil))⟩
/-- exchanged -/
def f_24 : Fn := ⟨"exchanged", 2, 2, [], false, (.cons (.ret (.bin .Add (.bin .Add (.sl (.var 0) .none (.some (.var 1))) (.lst (.cons (.idx (.var 0) (.bin .Add (.var 1) (.int 1))) (.cons (.idx (.var 0) (.var 1)) .nil)))) (.sl (.var 0) (.some (.bin .Add (.var 1) (.int 2))) .none))) .nil)⟩
/-- exchanges -/
def c_25_0 : IE := (.cmp .IsNot (.var 5) .non)
def w_25_1 : ISs := (.cons (.app 4 (.var 5)) (.cons (.set (.nm 3) false (.call 24 (.cons (.var 3) (.cons (.var 5) .nil)))) (.cons (.set (.nm 5) false (.call 23 (.cons (.var 0) (.cons (.var 1) (.cons (.var 3) .nil))))) .nil)))
def s_25_2 : IS := (.expr (.call 10 (.cons (.var 0) (.cons (.var 1) .nil))))
def s_25_3 : IS := (.expr (.call 11 (.cons (.var 0) (.cons (.var 2) .nil))))
def s_25_4 : IS := (.set (.nm 3) false (.bi .list (.cons (.var 2) .nil)))
def s_25_5 : IS := (.set (.nm 4) true (.lst .nil))
def s_25_6 : IS := (.set (.nm 5) false (.call 23 (.cons (.var 0) (.cons (.var 1) (.cons (.var 3) .nil)))))
def s_25_7 : IS := (.whl c_25_0 w_25_1)
def s_25_8 : IS := (.ret (.var 4))
def f_25 : Fn := ⟨"exchanges", 3, 6, [], false, (.cons s_25_2 (.cons s_25_3 (.cons s_25_4 (.cons s_25_5 (.cons s_25_6 (.cons s_25_7 (.cons (.frz 4) (.cons s_25_8 .nil))))))))⟩
/-- product_to -/
def w_26_0 : ISs := (.cons (.set (.nm 1) false (.bin .Mult (.var 1) (.var 2))) .nil)
def f_26 : Fn := ⟨"product_to", 1, 3, [], false, (.cons (.set (.nm 1) false (.int 1)) (.cons (.for_ (.nm 2) (.rng2 (.int 2) (.bin .Add (.var 0) (.int 1))) w_26_0) (.cons (.ret (.var 1)) .nil)))⟩
/-- alike_lots -/
def w_27_0 : DSs := (.cons (.ifs (.and (.cmp .NotEq (.var 2) (.lst .nil)) (.cmp .Eq (.call 14 (.cons (.var 0) (.cons (.var 1) (.cons (.idx (.idx (.var 2) (.neg (.int 1))) (.int 0)) (.cons (.var 3) .nil))))) (.int 0))) (.cons (.appC (.neg (.int 1)) (.var 3)) .nil) (.cons (.appN (.lst (.cons (.var 3) .nil))) .nil)) .nil)
def l_27_1 : IE := (.lc [4] (.nm 4) (.val (.var 2)) .none (.bi .sorted (.cons (.var 4) .nil)))
def f_27 : Fn := ⟨"alike_lots", 2, 5, [], false, (.cons (.deep 2 (.cons (.for_ (.nm 3) (.val (.call 18 (.cons (.var 0) (.cons (.var 1) .nil)))) w_27_0) .nil)) (.cons (.ret l_27_1) .nil))⟩
/-- count_best_waiting_rows -/
def w_28_0 : ISs := (.cons (.set (.nm 2) false (.bin .Mult (.var 2) (.call 26 (.cons (.bi .len (.cons (.var 3) .nil)) .nil)))) .nil)
def f_28 : Fn := ⟨"count_best_waiting_rows", 2, 4, [], false, (.cons (.expr (.call 10 (.cons (.var 0) (.cons (.var 1) .nil)))) (.cons (.set (.nm 2) false (.int 1)) (.cons (.for_ (.nm 3) (.val (.call 27 (.cons (.var 0) (.cons (.var 1) .nil)))) w_28_0) (.cons (.ret (.var 2)) .nil))))⟩
/-- lots_by_ratio -/
def f_29 : Fn := ⟨"lots_by_ratio", 2, 2, [], false, (.cons (.expr (.call 10 (.cons (.var 0) (.cons (.var 1) .nil)))) (.cons (.ret (.call 27 (.cons (.var 0) (.cons (.var 1) .nil)))) .nil))⟩
/-- cost_with -/
def l_30_0 : IE := (.lc [4] (.nm 4) (.rng (.bi .len (.cons (.var 0) .nil))) (.some (.cmp .NotEq (.var 4) (.var 2))) (.var 4))
def l_30_1 : IE := (.lc [4] (.nm 4) (.val (.var 3)) .none (.idx (.var 0) (.var 4)))
def l_30_2 : IE := (.lc [4] (.nm 4) (.val (.var 3)) .none (.idx (.var 1) (.var 4)))
def f_30 : Fn := ⟨"cost_with", 3, 6, [], false, (.cons (.expr (.call 10 (.cons (.var 0) (.cons (.var 1) .nil)))) (.cons (.expr (.call 8 (.cons (.bi .len (.cons (.var 0) .nil)) (.cons (.var 2) .nil)))) (.cons (.set (.nm 3) false l_30_0) (.cons (.set (.nm 5) false (.call 16 (.cons l_30_1 (.cons l_30_2 .nil)))) (.cons (.ret (.bin .Sub (.call 16 (.cons (.var 0) (.cons (.var 1) .nil))) (.var 5))) .nil)))))⟩
/-- _law_hash -/
def f_31 : Fn := ⟨"_law_hash", 2, 3, [], false, (.cons (.set (.nm 2) false (.bin .Mod (.bi .int (.cons (.bin .Add (.bin .Add (.bin .Add (.bin .Mult (.var 0) (.int 1140671)) (.bin .Mult (.bin .Mult (.int 27644437) (.var 1)) (.var 1))) (.bin .Mult (.int 131) (.var 1))) (.int 19)) .nil)) (.int 2147483629))) (.cons (.set (.nm 2) false (.bin .Mod (.bi .int (.cons (.bin .Add (.bin .Add (.bin .Mult (.var 2) (.var 2)) (.bin .Mult (.int 62089) (.var 1))) (.int 32416187)) .nil)) (.int 2147483587))) (.cons (.ret (.bin .Mod (.bi .int (.cons (.bin .Mult (.var 2) (.int 48271)) .nil)) (.int 2147483647))) .nil)))⟩
/-- _law_random -/
def w_32_0 : ISs := (.cons (.seti 0 (.int 2) (.bin .Add (.idxo 0 (.int 2)) (.int 1))) (.cons (.set (.nm 2) false (.bin .Add (.bin .Mult (.var 2) (.int 2147483587)) (.call 31 (.cons (.idxo 0 (.int 1)) (.cons (.idxo 0 (.int 2)) .nil))))) .nil))
def f_32 : Fn := ⟨"_law_random", 2, 4, [true], false, (.cons (.ifs (.cmp .Gt (.idxo 0 (.int 0)) (.int 0)) (.cons (.set (.nm 2) false (.bin .Mod (.bi .int (.cons (.idxo 0 (.int 0)) .nil)) (.var 1))) (.cons (.seti 0 (.int 0) (.bin .FloorDiv (.idxo 0 (.int 0)) (.var 1))) (.cons (.ret (.var 2)) .nil))) .nil) (.cons (.set (.nm 2) false (.int 0)) (.cons (.for_ (.nm 3) (.rng (.bin .Add (.int 1) (.bin .FloorDiv (.bits (.var 1)) (.int 30)))) w_32_0) (.cons (.ret (.bin .Mod (.bi .int (.cons (.var 2) .nil)) (.var 1))) .nil))))⟩
/-- _law_cell -/
def f_33 : Fn := ⟨"_law_cell", 2, 2, [], false, (.cons (.ifs (.cmp .Lt (.var 1) (.bi .len (.cons (.var 0) .nil))) (.cons (.ret (.idx (.var 0) (.var 1))) .nil) .nil) (.cons (.ret (.bin .Mod (.bi .sum (.cons (.sl (.var 0) .none (.some (.int 1))) .nil)) (.int 1000003))) .nil))⟩
/-- _law_generator -/
def f_34 : Fn := ⟨"_law_generator", 2, 3, [], true, (.cons (.set (.nm 2) false (.call 33 (.cons (.var 0) (.cons (.var 1) .nil)))) (.cons (.ret (.lst (.cons (.bin .Mod (.bi .int (.cons (.bi .max (.cons (.bin .Sub (.var 2) (.bin .Pow (.int 10) (.int 18))) (.cons (.int 0) .nil))) .nil)) (.bin .Pow (.bin .Pow (.int 10) (.int 60)) (.int 10))) (.cons (.bin .Mod (.bi .int (.cons (.var 2) .nil)) (.int 2147483647)) (.cons (.bin .Mult (.int 1000) (.var 1)) .nil))))) .nil))⟩
/-- _law_drawn_order -/
def c_35_0 : IE := (.scal (.cmp .NotEq (.var 2) (.lst .nil)))
def w_35_1 : ISs := (.cons (.app 3 (.pop 2 (.cons (.call 32 (.cons (.own 0) (.cons (.scal (.bi .len (.cons (.var 2) .nil))) .nil))) .nil))) .nil)
def f_35 : Fn := ⟨"_law_drawn_order", 2, 4, [true], false, (.cons (.parf 2 3 true true (.bi .list (.cons (.var 1) .nil)) (.lst .nil)) (.cons (.whl c_35_0 w_35_1) (.cons (.frz 3) (.cons (.ret (.var 3)) .nil))))⟩
/-- _law_exact -/
def l_36_0 : IE := (.lc [2, 3] (.tp [2, 3]) (.enum (.var 1)) .none (.call 36 (.cons (.idx (.var 0) (.var 2)) (.cons (.var 3) .nil))))
def f_36 : Fn := ⟨"_law_exact", 2, 4, [], false, (.cons (.ifs (.bi .isi (.cons (.var 1) (.cons (.tup (.cons (.ty "list") (.cons (.ty "tuple") .nil))) .nil))) (.cons (.ifs (.or (.cmp .NotEq (.bi .isi (.cons (.var 0) (.cons (.ty "list") .nil))) (.bi .isi (.cons (.var 1) (.cons (.ty "list") .nil)))) (.cmp .NotEq (.bi .isi (.cons (.var 0) (.cons (.ty "tuple") .nil))) (.bi .isi (.cons (.var 1) (.cons (.ty "tuple") .nil))))) (.cons (.ret (.bl false)) .nil) .nil) (.cons (.ret (.and (.cmp .Eq (.bi .len (.cons (.var 0) .nil)) (.bi .len (.cons (.var 1) .nil))) (.bi .all (.cons l_36_0 .nil)))) .nil)) .nil) (.cons (.ifs (.bi .isi (.cons (.var 1) (.cons (.ty "str") .nil))) (.cons (.ret (.and (.bi .isi (.cons (.var 0) (.cons (.ty "str") .nil))) (.cmp .Eq (.var 0) (.var 1)))) .nil) .nil) (.cons (.ifs (.bi .isi (.cons (.var 1) (.cons (.ty "bool") .nil))) (.cons (.ret (.and (.bi .isi (.cons (.var 0) (.cons (.ty "bool") .nil))) (.cmp .Eq (.var 0) (.var 1)))) .nil) .nil) (.cons (.ifs (.bi .isi (.cons (.var 1) (.cons (.ty "int") .nil))) (.cons (.ret (.and (.bi .isi (.cons (.var 0) (.cons (.ty "int") .nil))) (.and (.not (.bi .isi (.cons (.var 0) (.cons (.ty "bool") .nil)))) (.cmp .Eq (.var 0) (.var 1))))) .nil) .nil) (.cons (.ret (.and (.cmp .Is (.var 0) .non) (.cmp .Is (.var 1) .non))) .nil)))))⟩
/-- _law_copied -/
def l_37_0 : IE := (.lc [1] (.nm 1) (.val (.var 0)) .none (.call 37 (.cons (.var 1) .nil)))
def f_37 : Fn := ⟨"_law_copied", 1, 2, [], false, (.cons (.ifs (.bi .isi (.cons (.var 0) (.cons (.ty "list") .nil))) (.cons (.ret l_37_0) .nil) .nil) (.cons (.ret (.ife (.bi .isi (.cons (.var 0) (.cons (.ty "tuple") .nil))) (.bi .tuple (.cons l_37_0 .nil)) (.var 0))) .nil))⟩
/-- _law_times -/
def l_38_0 : IE := (.lc [4] (.nm 4) (.rng (.var 2)) .none (.bin .Add (.int 1) (.call 32 (.cons (.own 0) (.cons (.var 3) .nil)))))
def f_38 : Fn := ⟨"_law_times", 2, 5, [true], false, (.cons (.set (.tp [2, 3]) false (.tup (.cons (.bin .Add (.int 1) (.call 32 (.cons (.own 0) (.cons (.var 1) .nil)))) (.cons (.idx (.lst (.cons (.int 3) (.cons (.int 9) (.cons (.int 30) (.cons (.int 1000) .nil))))) (.call 32 (.cons (.own 0) (.cons (.int 4) .nil)))) .nil)))) (.cons (.ret l_38_0) .nil))⟩
/-- _law_weights -/
def l_39_0 : IE := (.lc [4] (.nm 4) (.rng (.var 1)) .none (.bin .Add (.var 2) (.call 32 (.cons (.own 0) (.cons (.var 3) .nil)))))
def f_39 : Fn := ⟨"_law_weights", 3, 5, [true], false, (.cons (.set (.nm 3) false (.idx (.lst (.cons (.int 2) (.cons (.int 9) (.cons (.int 30) (.cons (.int 900) .nil))))) (.call 32 (.cons (.own 0) (.cons (.int 4) .nil))))) (.cons (.ret l_39_0) .nil))⟩
/-- _law_wrong_pairs -/
def l_40_0 : IE := (.lc [6] (.nm 6) (.val (.sl (.var 2) (.some (.bin .Add (.var 4) (.int 1))) .none)) (.some (.cmp .Gt (.bin .Mult (.idx (.var 1) (.var 6)) (.idx (.var 0) (.var 5))) (.bin .Mult (.idx (.var 1) (.var 5)) (.idx (.var 0) (.var 6))))) (.var 6))
def w_40_1 : ISs := (.cons (.set (.nm 3) false (.bin .Add (.var 3) (.bi .len (.cons l_40_0 .nil)))) .nil)
def f_40 : Fn := ⟨"_law_wrong_pairs", 3, 7, [], false, (.cons (.set (.nm 3) false (.int 0)) (.cons (.for_ (.tp [4, 5]) (.enum (.var 2)) w_40_1) (.cons (.ret (.var 3)) .nil)))⟩
/-- _law_grown_right -/
def l_41_0 : IE := (.lc [8] (.nm 8) (.val (.var 1)) .none (.bin .Mult (.var 4) (.var 8)))
def l_41_1 : IE := (.lc [9] (.nm 9) (.val (.var 2)) .none (.bin .Mult (.var 5) (.var 9)))
def l_41_2 : IE := (.lc [15] (.nm 15) (.val (.var 12)) .none (.idx (.var 1) (.var 15)))
def l_41_3 : IE := (.lc [15] (.nm 15) (.val (.var 12)) .none (.idx (.var 2) (.var 15)))
def l_41_4 : IE := (.lc [15] (.nm 15) (.val (.var 3)) .none (.idxof (.var 12) (.var 15)))
def s_41_5 : IS := (.set (.tp [4, 5]) false (.tup (.cons (.bin .Add (.int 1) (.call 32 (.cons (.own 0) (.cons (.bin .FloorDiv (.int 1000) (.bi .max (.cons (.var 1) .nil))) .nil)))) (.cons (.bin .Add (.int 1) (.call 32 (.cons (.own 0) (.cons (.bin .FloorDiv (.int 1000) (.bi .max (.cons (.int 1) (.cons (.bi .max (.cons (.var 2) .nil)) .nil)))) .nil)))) .nil))))
def s_41_6 : IS := (.par 6 7 l_41_0 l_41_1)
def s_41_7 : IS := (.set (.nm 10) false (.lst (.cons (.call 15 (.cons (.var 6) (.cons (.var 7) (.cons (.var 3) .nil)))) (.cons (.call 17 (.cons (.var 6) (.cons (.var 7) .nil))) (.cons (.call 29 (.cons (.var 6) (.cons (.var 7) .nil))) (.cons (.call 19 (.cons (.var 6) (.cons (.var 7) .nil))) (.cons (.call 28 (.cons (.var 6) (.cons (.var 7) .nil))) (.cons (.call 25 (.cons (.var 6) (.cons (.var 7) (.cons (.var 3) .nil)))) .nil))))))))
def s_41_8 : IS := (.set (.nm 11) false (.lst (.cons (.bin .Mult (.bin .Mult (.var 4) (.var 5)) (.call 15 (.cons (.var 1) (.cons (.var 2) (.cons (.var 3) .nil))))) (.cons (.bin .Mult (.bin .Mult (.var 4) (.var 5)) (.call 17 (.cons (.var 1) (.cons (.var 2) .nil)))) (.cons (.call 29 (.cons (.var 1) (.cons (.var 2) .nil))) (.cons (.call 19 (.cons (.var 1) (.cons (.var 2) .nil))) (.cons (.call 28 (.cons (.var 1) (.cons (.var 2) .nil))) (.cons (.call 25 (.cons (.var 1) (.cons (.var 2) (.cons (.var 3) .nil)))) .nil))))))))
def s_41_9 : IS := (.set (.nm 12) false (.call 35 (.cons (.own 0) (.cons (.lrg (.bi .len (.cons (.var 1) .nil))) .nil))))
def s_41_10 : IS := (.par 13 14 l_41_2 l_41_3)
def s_41_11 : IS := (.set (.nm 16) false l_41_4)
def s_41_12 : IS := (.set (.nm 10) false (.bin .Add (.var 10) (.lst (.cons (.call 15 (.cons (.var 13) (.cons (.var 14) (.cons (.var 16) .nil)))) (.cons (.call 17 (.cons (.var 13) (.cons (.var 14) .nil))) (.cons (.call 28 (.cons (.var 13) (.cons (.var 14) .nil))) (.cons (.call 21 (.cons (.var 13) (.cons (.var 14) (.cons (.var 16) .nil)))) .nil)))))))
def s_41_13 : IS := (.set (.nm 11) false (.bin .Add (.var 11) (.lst (.cons (.call 15 (.cons (.var 1) (.cons (.var 2) (.cons (.var 3) .nil)))) (.cons (.call 17 (.cons (.var 1) (.cons (.var 2) .nil))) (.cons (.call 28 (.cons (.var 1) (.cons (.var 2) .nil))) (.cons (.call 21 (.cons (.var 1) (.cons (.var 2) (.cons (.var 3) .nil)))) .nil)))))))
def s_41_14 : IS := (.ret (.call 36 (.cons (.var 10) (.cons (.var 11) .nil))))
def f_41 : Fn := ⟨"_law_grown_right", 4, 17, [true], false, (.cons s_41_5 (.cons s_41_6 (.cons s_41_7 (.cons s_41_8 (.cons s_41_9 (.cons s_41_10 (.cons s_41_11 (.cons s_41_12 (.cons s_41_13 (.cons s_41_14 .nil))))))))))⟩
/-- _law_turned_right -/
def l_42_0 : IE := (.lc [6, 7] (.tp [6, 7]) (.enum (.var 0)) .none (.bin .Mult (.idx (.var 1) (.var 6)) (.bin .Add (.var 3) (.var 7))))
def s_42_1 : IS := (.set (.tp [3, 4]) false (.tup (.cons (.bi .sum (.cons (.var 0) .nil)) (.cons (.rev (.var 2)) .nil))))
def s_42_2 : IS := (.set (.nm 5) false (.bi .sum (.cons l_42_0 .nil)))
def s_42_3 : IS := (.ifs (.cmp .NotEq (.bin .Add (.call 15 (.cons (.var 0) (.cons (.var 1) (.cons (.var 2) .nil)))) (.call 15 (.cons (.var 0) (.cons (.var 1) (.cons (.var 4) .nil))))) (.var 5)) (.cons (.ret (.bl false)) .nil) .nil)
def s_42_4 : IS := (.ifs (.cmp .Lt (.bi .min (.cons (.var 1) .nil)) (.int 1)) (.cons (.ret (.bl true)) .nil) .nil)
def s_42_5 : IS := (.set (.nm 8) false (.lst (.cons (.call 15 (.cons (.var 1) (.cons (.var 0) (.cons (.var 4) .nil)))) (.cons (.call 17 (.cons (.var 1) (.cons (.var 0) .nil))) (.cons (.call 21 (.cons (.var 1) (.cons (.var 0) (.cons (.var 4) .nil)))) (.cons (.call 29 (.cons (.var 1) (.cons (.var 0) .nil))) (.cons (.call 28 (.cons (.var 1) (.cons (.var 0) .nil))) .nil)))))))
def s_42_6 : IS := (.set (.nm 9) false (.lst (.cons (.call 15 (.cons (.var 0) (.cons (.var 1) (.cons (.var 2) .nil)))) (.cons (.call 17 (.cons (.var 0) (.cons (.var 1) .nil))) (.cons (.call 21 (.cons (.var 0) (.cons (.var 1) (.cons (.var 2) .nil)))) (.cons (.rev (.call 29 (.cons (.var 0) (.cons (.var 1) .nil)))) (.cons (.call 28 (.cons (.var 0) (.cons (.var 1) .nil))) .nil)))))))
def s_42_7 : IS := (.ret (.call 36 (.cons (.var 8) (.cons (.var 9) .nil))))
def f_42 : Fn := ⟨"_law_turned_right", 3, 10, [], false, (.cons s_42_1 (.cons s_42_2 (.cons s_42_3 (.cons s_42_4 (.cons s_42_5 (.cons s_42_6 (.cons s_42_7 .nil)))))))⟩
/-- _law_exchanges_right -/
def s_43_0 : IS := (.set (.nm 7) false (.call 22 (.cons (.var 0) (.cons (.var 1) (.cons (.var 3) (.cons (.var 6) .nil))))))
def s_43_1 : IS := (.set (.nm 8) false (.call 15 (.cons (.var 0) (.cons (.var 1) (.cons (.var 3) .nil)))))
def s_43_2 : IS := (.set (.nm 3) false (.bin .Add (.bin .Add (.sl (.var 3) .none (.some (.var 6))) (.lst (.cons (.idx (.var 3) (.bin .Add (.var 6) (.int 1))) (.cons (.idx (.var 3) (.var 6)) .nil)))) (.sl (.var 3) (.some (.bin .Add (.var 6) (.int 2))) .none)))
def s_43_3 : IS := (.ifs (.or (.cmp .Lt (.var 7) (.int 1)) (.cmp .NotEq (.bin .Sub (.var 8) (.call 15 (.cons (.var 0) (.cons (.var 1) (.cons (.var 3) .nil))))) (.var 7))) (.cons (.ret (.bl false)) .nil) .nil)
def s_43_4 : IS := (.set (.nm 4) false (.bin .Add (.var 4) (.var 7)))
def w_43_5 : ISs := (.cons s_43_0 (.cons s_43_1 (.cons s_43_2 (.cons s_43_3 (.cons s_43_4 .nil)))))
def f_43 : Fn := ⟨"_law_exchanges_right", 3, 9, [], false, (.cons (.par 3 4 (.bi .list (.cons (.var 2) .nil)) (.int 0)) (.cons (.set (.nm 5) false (.call 25 (.cons (.var 0) (.cons (.var 1) (.cons (.var 2) .nil))))) (.cons (.ifs (.cmp .NotEq (.bi .len (.cons (.var 5) .nil)) (.call 40 (.cons (.var 0) (.cons (.var 1) (.cons (.var 2) .nil))))) (.cons (.ret (.bl false)) .nil) .nil) (.cons (.for_ (.nm 6) (.val (.var 5)) w_43_5) (.cons (.ret (.and (.cmp .Eq (.bin .Sub (.call 15 (.cons (.var 0) (.cons (.var 1) (.cons (.var 2) .nil)))) (.var 4)) (.call 17 (.cons (.var 0) (.cons (.var 1) .nil)))) (.cmp .Is (.call 21 (.cons (.var 0) (.cons (.var 1) (.cons (.var 3) .nil)))) (.bl true)))) .nil)))))⟩
/-- _law_beside_right -/
def l_44_0 : IE := (.lc [7] (.nm 7) (.rng (.var 3)) (.some (.cmp .NotEq (.var 7) (.var 5))) (.ife (.cmp .Lt (.bin .Mult (.idx (.var 2) (.var 7)) (.idx (.var 1) (.var 5))) (.bin .Mult (.idx (.var 2) (.var 5)) (.idx (.var 1) (.var 7)))) (.bin .Mult (.idx (.var 2) (.var 7)) (.idx (.var 1) (.var 5))) (.bin .Mult (.idx (.var 2) (.var 5)) (.idx (.var 1) (.var 7)))))
def w_44_1 : ISs := (.cons (.set (.nm 6) false l_44_0) (.cons (.ifs (.cmp .NotEq (.call 30 (.cons (.var 1) (.cons (.var 2) (.cons (.var 5) .nil)))) (.bin .Add (.bin .Mult (.idx (.var 2) (.var 5)) (.idx (.var 1) (.var 5))) (.bi .sum (.cons (.var 6) .nil)))) (.cons (.ret (.bl false)) .nil) .nil) (.cons (.set (.nm 4) false (.bin .Add (.var 4) (.call 30 (.cons (.var 1) (.cons (.var 2) (.cons (.var 5) .nil)))))) .nil)))
def l_44_2 : IE := (.lc [5, 9] (.tp [5, 9]) (.enum (.var 1)) .none (.bin .Mult (.idx (.var 2) (.var 5)) (.var 9)))
def l_44_3 : IE := (.lc [7] (.nm 7) (.rng (.bi .len (.cons (.var 10) .nil))) .none (.bi .min (.cons (.bin .Mult (.idx (.var 2) (.var 14)) (.idx (.var 10) (.var 7))) (.cons (.bin .Mult (.idx (.var 11) (.var 7)) (.idx (.var 1) (.var 14))) .nil))))
def l_44_4 : IE := (.lc [14] (.nm 14) (.rng (.var 3)) .none (.bi .sum (.cons l_44_3 .nil)))
def s_44_5 : IS := (.par 3 4 (.bi .len (.cons (.var 1) .nil)) (.int 0))
def s_44_6 : IS := (.for_ (.nm 5) (.rng (.var 3)) w_44_1)
def s_44_7 : IS := (.set (.nm 8) false (.bi .sum (.cons l_44_2 .nil)))
def s_44_8 : IS := (.ifs (.cmp .NotEq (.var 4) (.bin .Sub (.bin .Mult (.int 2) (.call 17 (.cons (.var 1) (.cons (.var 2) .nil)))) (.var 8))) (.cons (.ret (.bl false)) .nil) .nil)
def s_44_9 : IS := (.ifs (.cmp .Gt (.var 3) (.int 6)) (.cons (.ret (.bl true)) .nil) .nil)
def s_44_10 : IS := (.set (.tp [10, 11]) false (.tup (.cons (.call 38 (.cons (.own 0) (.cons (.int 6) .nil))) (.cons (.lst .nil) .nil))))
def s_44_11 : IS := (.set (.nm 11) false (.call 39 (.cons (.own 0) (.cons (.bi .len (.cons (.var 10) .nil)) (.cons (.int 0) .nil)))))
def s_44_12 : IS := (.set (.nm 12) false (.call 17 (.cons (.bin .Add (.var 1) (.var 10)) (.cons (.bin .Add (.var 2) (.var 11)) .nil))))
def s_44_13 : IS := (.set (.nm 13) false (.bi .sum (.cons l_44_4 .nil)))
def s_44_14 : IS := (.ret (.cmp .Eq (.var 12) (.bin .Add (.bin .Add (.call 17 (.cons (.var 1) (.cons (.var 2) .nil))) (.call 17 (.cons (.var 10) (.cons (.var 11) .nil)))) (.var 13))))
def f_44 : Fn := ⟨"_law_beside_right", 3, 15, [true], false, (.cons s_44_5 (.cons s_44_6 (.cons s_44_7 (.cons s_44_8 (.cons s_44_9 (.cons s_44_10 (.cons s_44_11 (.cons s_44_12 (.cons s_44_13 (.cons s_44_14 .nil))))))))))⟩
/-- _law_split_right -/
def l_45_0 : IE := (.lc [9] (.nm 9) (.val (.var 6)) .none (.ife (.cmp .In (.var 3) (.var 9)) (.bi .sorted (.cons (.bin .Add (.var 9) (.lst (.cons (.bi .len (.cons (.var 1) .nil)) .nil))) .nil)) (.var 9)))
def l_45_1 : IE := (.lc [9] (.nm 9) (.val (.var 8)) (.some (.cmp .In (.bi .len (.cons (.var 1) .nil)) (.var 9))) (.bi .len (.cons (.var 9) .nil)))
def s_45_2 : IS := (.ifs (.cmp .Gt (.bi .len (.cons (.var 1) .nil)) (.int 11)) (.cons (.ret (.bl true)) .nil) .nil)
def s_45_3 : IS := (.set (.nm 3) false (.call 32 (.cons (.own 0) (.cons (.bi .len (.cons (.var 1) .nil)) .nil))))
def s_45_4 : IS := (.ifs (.or (.cmp .Lt (.idx (.var 1) (.var 3)) (.int 2)) (.cmp .Gt (.bin .Mult (.idx (.var 2) (.var 3)) (.int 2)) (.int 1000))) (.cons (.ret (.bl true)) .nil) .nil)
def s_45_5 : IS := (.par 4 5 (.bin .Add (.var 1) (.lst (.cons (.idx (.var 1) (.var 3)) .nil))) (.bin .Add (.var 2) (.lst (.cons (.idx (.var 2) (.var 3)) .nil))))
def s_45_6 : IS := (.par 6 7 (.call 29 (.cons (.var 1) (.cons (.var 2) .nil))) (.call 29 (.cons (.var 4) (.cons (.var 5) .nil))))
def s_45_7 : IS := (.set (.nm 8) false l_45_0)
def s_45_8 : IS := (.set (.nm 10) false (.idx l_45_1 (.int 0)))
def s_45_9 : IS := (.ret (.call 36 (.cons (.lst (.cons (.var 7) (.cons (.call 28 (.cons (.var 4) (.cons (.var 5) .nil))) .nil))) (.cons (.lst (.cons (.var 8) (.cons (.bin .Mult (.var 10) (.call 28 (.cons (.var 1) (.cons (.var 2) .nil)))) .nil))) .nil))))
def f_45 : Fn := ⟨"_law_split_right", 3, 11, [true], false, (.cons s_45_2 (.cons s_45_3 (.cons s_45_4 (.cons s_45_5 (.cons s_45_6 (.cons s_45_7 (.cons s_45_8 (.cons s_45_9 .nil))))))))⟩
/-- law -/
def w_46_0 : ISs := (.cons (.ifs (.or (.not (.call 42 (.cons (.var 3) (.cons (.var 4) (.cons (.var 7) .nil))))) (.not (.call 43 (.cons (.var 3) (.cons (.var 4) (.cons (.var 7) .nil)))))) (.cons (.ret (.bl false)) .nil) .nil) .nil)
def s_46_1 : IS := (.set (.nm 3) false (.call 38 (.cons (.own 1) (.cons (.idx (.lst (.cons (.int 12) (.cons (.int 3) (.cons (.int 6) (.cons (.int 9) .nil))))) (.var 2)) .nil))))
def s_46_2 : IS := (.set (.nm 4) false (.call 39 (.cons (.own 1) (.cons (.bi .len (.cons (.var 3) .nil)) (.cons (.bi .int (.cons (.cmp .Gt (.var 2) (.int 1)) .nil)) .nil)))))
def s_46_3 : IS := (.par 5 6 (.call 37 (.cons (.lst (.cons (.var 3) (.cons (.var 4) .nil))) .nil)) (.call 35 (.cons (.own 1) (.cons (.lrg (.bi .len (.cons (.var 3) .nil))) .nil))))
def s_46_4 : IS := (.for_ (.nm 7) (.val (.tup (.cons (.var 6) (.cons (.call 19 (.cons (.var 3) (.cons (.var 4) .nil))) .nil)))) w_46_0)
def s_46_5 : IS := (.ifs (.or (.not (.call 41 (.cons (.own 1) (.cons (.var 3) (.cons (.var 4) (.cons (.var 6) .nil)))))) (.or (.not (.call 44 (.cons (.own 1) (.cons (.var 3) (.cons (.var 4) .nil))))) (.not (.call 45 (.cons (.own 1) (.cons (.var 3) (.cons (.var 4) .nil))))))) (.cons (.ret (.bl false)) .nil) .nil)
def s_46_6 : IS := (.ifs (.not (.call 36 (.cons (.lst (.cons (.var 3) (.cons (.var 4) .nil))) (.cons (.var 5) .nil)))) (.cons (.ret (.bl false)) .nil) .nil)
def w_46_7 : ISs := (.cons s_46_1 (.cons s_46_2 (.cons s_46_3 (.cons s_46_4 (.cons s_46_5 (.cons s_46_6 .nil))))))
def f_46 : Fn := ⟨"law", 1, 8, [], false, (.cons (.set (.nm 1) true (.call 34 (.cons (.var 0) (.cons (.int 0) .nil)))) (.cons (.for_ (.nm 2) (.rng (.int 4)) w_46_7) (.cons (.ret (.bl true)) .nil)))⟩
def T : List Fn := [f_0, f_1, f_2, f_3, f_4, f_5, f_6, f_7, f_8, f_9, f_10, f_11, f_12, f_13, f_14, f_15, f_16, f_17, f_18, f_19, f_20, f_21, f_22, f_23, f_24, f_25, f_26, f_27, f_28, f_29, f_30, f_31, f_32, f_33, f_34, f_35, f_36, f_37, f_38, f_39, f_40, f_41, f_42, f_43, f_44, f_45, f_46]
def X : List Dfn := [⟨dd 8 "is_whole", ["value"], f_0⟩, ⟨dd 13 "is_count", ["value"], f_1⟩, ⟨dd 14 "is_below", ["value", "bound"], f_2⟩, ⟨dd 15 "are_counts", ["value", "size", "least", "most", "one"], f_3⟩, ⟨dd 16 "are_times", ["value"], f_4⟩, ⟨dd 17 "check_times", ["times"], f_5⟩, ⟨dd 18 "are_weights_of", ["size", "value"], f_6⟩, ⟨dd 19 "check_weights", ["size", "weights"], f_7⟩, ⟨dd 20 "check_job", ["size", "job"], f_8⟩, ⟨dd 21 "is_row_of", ["size", "value", "one"], f_9⟩, ⟨dd 23 "check_jobs", ["times", "weights"], f_10⟩, ⟨dd 24 "check_any_row", ["times", "row"], f_11⟩, ⟨dd 25 "ends_of", ["times", "row", "found", "now", "job"], f_12⟩, ⟨dd 26 "cost_of", ["times", "weights", "row", "ends", "job", "weight"], f_13⟩, ⟨dd 27 "gain_of", ["times", "weights", "ahead", "behind"], f_14⟩, ⟨dd 28 "waiting_cost", ["times", "weights", "row"], f_15⟩, ⟨dd 29 "least_of", ["times", "weights", "found", "job", "time", "other"], f_16⟩, ⟨dd 30 "least_waiting", ["times", "weights"], f_17⟩, ⟨dd 31 "by_ratio", ["times", "weights", "left", "found", "first", "job"], f_18⟩, ⟨dd 32 "best_waiting_row", ["times", "weights"], f_19⟩, ⟨dd 33 "is_best_of", ["times", "weights", "row", "at"], f_20⟩, ⟨dd 34 "is_best_waiting_row", ["times", "weights", "value"], f_21⟩, ⟨dd 35 "gain", ["times", "weights", "row", "place"], f_22⟩, ⟨dd 36 "first_gain", ["times", "weights", "row", "place"], f_23⟩, ⟨dd 37 "exchanged", ["row", "place"], f_24⟩, ⟨dd 38 "exchanges", ["times", "weights", "row", "now", "found", "place"], f_25⟩, ⟨dd 39 "product_to", ["many", "found", "at"], f_26⟩, ⟨dd 40 "alike_lots", ["times", "weights", "found", "job", "lot"], f_27⟩, ⟨dd 41 "count_best_waiting_rows", ["times", "weights", "found", "lot"], f_28⟩, ⟨dd 42 "lots_by_ratio", ["times", "weights"], f_29⟩, ⟨dd 43 "cost_with", ["times", "weights", "job", "rest", "other", "less"], f_30⟩, ⟨dd 45 "_law_hash", ["seed", "index", "mixed"], f_31⟩, ⟨dd 46 "_law_random", ["generator", "bound", "drawn", "turn"], f_32⟩, ⟨dd 47 "_law_cell", ["script", "index"], f_33⟩, ⟨dd 48 "_law_generator", ["script", "index", "seed"], f_34⟩, ⟨dd 49 "_law_drawn_order", ["generator", "things", "left", "found"], f_35⟩, ⟨dd 50 "_law_exact", ["told", "due", "at", "part"], f_36⟩, ⟨dd 51 "_law_copied", ["thing", "part"], f_37⟩, ⟨dd 52 "_law_times", ["generator", "most", "size", "wide", "job"], f_38⟩, ⟨dd 53 "_law_weights", ["generator", "size", "least", "wide", "job"], f_39⟩, ⟨dd 54 "_law_wrong_pairs", ["times", "weights", "row", "found", "at", "job", "other"], f_40⟩, ⟨dd 55 "_law_grown_right", ["generator", "times", "weights", "row", "factor", "level", "longer", "heavier", "time", "weight", "told", "due", "names", "other_times", "other_weights", "job", "other_row"], f_41⟩, ⟨dd 56 "_law_turned_right", ["times", "weights", "row", "full", "back", "both", "job", "time", "told", "due"], f_42⟩, ⟨dd 57 "_law_exchanges_right", ["times", "weights", "row", "now", "total", "places", "place", "step", "cost"], f_43⟩, ⟨dd 58 "_law_beside_right", ["generator", "times", "weights", "size", "full", "job", "there", "other", "alone", "time", "other_times", "other_weights", "both", "across", "one"], f_44⟩, ⟨dd 59 "_law_split_right", ["generator", "times", "weights", "job", "twice", "heavier", "lots", "more", "due", "lot", "many"], f_45⟩, ⟨dd 60 "law", ["script", "generator", "turn", "times", "weights", "noted", "row", "one"], f_46⟩]
def kb : List (Nat × Nat × List Str × List Nat) := []
def ci : List (Str × Int) := [("MOST_JOBS", 12), ("MOST_TIME", 1000), ("MOST_WEIGHT", 1000)]
def cs : List (Str × Str) := []
def xs : List Str := ["InvalidTimes", "InvalidWeights", "InvalidRow", "InvalidJob", "InvalidPart"]
def xb : Str := "WorkError"
theorem cf_0 (k : Nat) (as : List D) : CF T (k + 1) 0 as = runF (CF T k) f_0 as := rfl
theorem cf_1 (k : Nat) (as : List D) : CF T (k + 1) 1 as = runF (CF T k) f_1 as := rfl
theorem cf_2 (k : Nat) (as : List D) : CF T (k + 1) 2 as = runF (CF T k) f_2 as := rfl
theorem cf_3 (k : Nat) (as : List D) : CF T (k + 1) 3 as = runF (CF T k) f_3 as := rfl
theorem cf_4 (k : Nat) (as : List D) : CF T (k + 1) 4 as = runF (CF T k) f_4 as := rfl
theorem cf_5 (k : Nat) (as : List D) : CF T (k + 1) 5 as = runF (CF T k) f_5 as := rfl
theorem cf_6 (k : Nat) (as : List D) : CF T (k + 1) 6 as = runF (CF T k) f_6 as := rfl
theorem cf_7 (k : Nat) (as : List D) : CF T (k + 1) 7 as = runF (CF T k) f_7 as := rfl
theorem cf_8 (k : Nat) (as : List D) : CF T (k + 1) 8 as = runF (CF T k) f_8 as := rfl
theorem cf_9 (k : Nat) (as : List D) : CF T (k + 1) 9 as = runF (CF T k) f_9 as := rfl
theorem cf_10 (k : Nat) (as : List D) : CF T (k + 1) 10 as = runF (CF T k) f_10 as := rfl
theorem cf_11 (k : Nat) (as : List D) : CF T (k + 1) 11 as = runF (CF T k) f_11 as := rfl
theorem cf_12 (k : Nat) (as : List D) : CF T (k + 1) 12 as = runF (CF T k) f_12 as := rfl
theorem cf_13 (k : Nat) (as : List D) : CF T (k + 1) 13 as = runF (CF T k) f_13 as := rfl
theorem cf_14 (k : Nat) (as : List D) : CF T (k + 1) 14 as = runF (CF T k) f_14 as := rfl
theorem cf_15 (k : Nat) (as : List D) : CF T (k + 1) 15 as = runF (CF T k) f_15 as := rfl
theorem cf_16 (k : Nat) (as : List D) : CF T (k + 1) 16 as = runF (CF T k) f_16 as := rfl
theorem cf_17 (k : Nat) (as : List D) : CF T (k + 1) 17 as = runF (CF T k) f_17 as := rfl
theorem cf_18 (k : Nat) (as : List D) : CF T (k + 1) 18 as = runF (CF T k) f_18 as := rfl
theorem cf_19 (k : Nat) (as : List D) : CF T (k + 1) 19 as = runF (CF T k) f_19 as := rfl
theorem cf_20 (k : Nat) (as : List D) : CF T (k + 1) 20 as = runF (CF T k) f_20 as := rfl
theorem cf_21 (k : Nat) (as : List D) : CF T (k + 1) 21 as = runF (CF T k) f_21 as := rfl
theorem cf_22 (k : Nat) (as : List D) : CF T (k + 1) 22 as = runF (CF T k) f_22 as := rfl
theorem cf_23 (k : Nat) (as : List D) : CF T (k + 1) 23 as = runF (CF T k) f_23 as := rfl
theorem cf_24 (k : Nat) (as : List D) : CF T (k + 1) 24 as = runF (CF T k) f_24 as := rfl
theorem cf_25 (k : Nat) (as : List D) : CF T (k + 1) 25 as = runF (CF T k) f_25 as := rfl
theorem cf_26 (k : Nat) (as : List D) : CF T (k + 1) 26 as = runF (CF T k) f_26 as := rfl
theorem cf_27 (k : Nat) (as : List D) : CF T (k + 1) 27 as = runF (CF T k) f_27 as := rfl
theorem cf_28 (k : Nat) (as : List D) : CF T (k + 1) 28 as = runF (CF T k) f_28 as := rfl
theorem cf_29 (k : Nat) (as : List D) : CF T (k + 1) 29 as = runF (CF T k) f_29 as := rfl
theorem cf_30 (k : Nat) (as : List D) : CF T (k + 1) 30 as = runF (CF T k) f_30 as := rfl
theorem cf_31 (k : Nat) (as : List D) : CF T (k + 1) 31 as = runF (CF T k) f_31 as := rfl
theorem cf_32 (k : Nat) (as : List D) : CF T (k + 1) 32 as = runF (CF T k) f_32 as := rfl
theorem cf_33 (k : Nat) (as : List D) : CF T (k + 1) 33 as = runF (CF T k) f_33 as := rfl
theorem cf_34 (k : Nat) (as : List D) : CF T (k + 1) 34 as = runF (CF T k) f_34 as := rfl
theorem cf_35 (k : Nat) (as : List D) : CF T (k + 1) 35 as = runF (CF T k) f_35 as := rfl
theorem cf_36 (k : Nat) (as : List D) : CF T (k + 1) 36 as = runF (CF T k) f_36 as := rfl
theorem cf_37 (k : Nat) (as : List D) : CF T (k + 1) 37 as = runF (CF T k) f_37 as := rfl
theorem cf_38 (k : Nat) (as : List D) : CF T (k + 1) 38 as = runF (CF T k) f_38 as := rfl
theorem cf_39 (k : Nat) (as : List D) : CF T (k + 1) 39 as = runF (CF T k) f_39 as := rfl
theorem cf_40 (k : Nat) (as : List D) : CF T (k + 1) 40 as = runF (CF T k) f_40 as := rfl
theorem cf_41 (k : Nat) (as : List D) : CF T (k + 1) 41 as = runF (CF T k) f_41 as := rfl
theorem cf_42 (k : Nat) (as : List D) : CF T (k + 1) 42 as = runF (CF T k) f_42 as := rfl
theorem cf_43 (k : Nat) (as : List D) : CF T (k + 1) 43 as = runF (CF T k) f_43 as := rfl
theorem cf_44 (k : Nat) (as : List D) : CF T (k + 1) 44 as = runF (CF T k) f_44 as := rfl
theorem cf_45 (k : Nat) (as : List D) : CF T (k + 1) 45 as = runF (CF T k) f_45 as := rfl
theorem cf_46 (k : Nat) (as : List D) : CF T (k + 1) 46 as = runF (CF T k) f_46 as := rfl
theorem hT : X.map (·.f) = T := rfl
theorem hs : X.all scopeC = true := by decide +kernel
theorem hd : X.all dC = true := by decide +kernel
theorem hb : X.all (bodyC T kb ci cs xs xb) = true := by decide +kernel
theorem hkb : KBs X kb := fun q hq => absurd hq List.not_mem_nil
end LT
namespace LT
open PySem VI
/-! W1: the program's part: kinds, costs -/
def at_ (xs : List Int) (i : Int) : Int := xs.getD i.toNat 0
theorem idx_at {xs : List Int} {i : Int} (h0 : 0 ≤ i) (h1 : i < xs.length) : idxD (dI xs) (.int i) = some (.int (at_ xs i)) := idx_dI' h0 h1
theorem sm_of {x : Int} (h0 : -1000000000000000000000 ≤ x) (h1 : x ≤ 1000000000000000000000) : x.natAbs < 2 ^ 100 := by
  have : (2 : Nat) ^ 100 = 1267650600228229401496703205376 := by decide
  omega
theorem mul_sm {x y : Int} (hx : x.natAbs < 2 ^ 100) (hy : y.natAbs < 2 ^ 100) : mulD (.int x) (.int y) = some (.int (x * y)) := mul_int 100 100 hx hy (by decide)
theorem is_count_at {k : Nat} (hk : 2 ≤ k) (i : Int) : CF T k 1 [.int i] = .ret (.bl (decide (0 ≤ i))) [] := by
  obtain ⟨k, rfl⟩ : ∃ j, k = j + 1 := ⟨k - 1, by omega⟩
  have h1 : CF T k 0 [.int i] = .ret (.bl true) [] := by
    obtain ⟨k, rfl⟩ : ∃ j, k = j + 1 := ⟨k - 1, by omega⟩
    rw [cf_0]
    simp -implicitDefEqProofs [runF, exs, ex, evb, evi, evc, evo, ev, evs, getE, callD, argsAt, outsAt, outsOf, IEs.owns, binD, cmpD, biD, addD, subD, leD, ltD, isiD, truD, negD, isL, eq_int, itemsD, bindT, len_dI, sz0, sz1, sz2, sz3, sz4, sz5, sz6, kt1, kt2, kt3, kt4, kt5, kt6, kt7, kt8, kt9, kt10, kt11, kt12, kt13, kt14, kt15, f_0]
  rw [cf_1]
  simp -implicitDefEqProofs [runF, exs, ex, evb, evi, evc, evo, ev, evs, getE, callD, argsAt, outsAt, outsOf, IEs.owns, binD, cmpD, biD, addD, subD, leD, ltD, isiD, truD, negD, isL, eq_int, itemsD, bindT, len_dI, sz0, sz1, sz2, sz3, sz4, sz5, sz6, kt1, kt2, kt3, kt4, kt5, kt6, kt7, kt8, kt9, kt10, kt11, kt12, kt13, kt14, kt15, f_1, h1]
theorem is_below_at {k : Nat} (hk : 3 ≤ k) (i n : Int) : CF T k 2 [.int i, .int n] = .ret (.bl (decide (0 ≤ i) && decide (i < n))) [] := by
  obtain ⟨k, rfl⟩ : ∃ j, k = j + 1 := ⟨k - 1, by omega⟩
  have h1 := is_count_at (k := k) (by omega) i
  rw [cf_2]
  by_cases h : 0 ≤ i
  · simp -implicitDefEqProofs [runF, exs, ex, evb, evi, evc, evo, ev, evs, getE, callD, argsAt, outsAt, outsOf, IEs.owns, binD, cmpD, biD, addD, subD, leD, ltD, isiD, truD, negD, isL, eq_int, itemsD, bindT, len_dI, sz0, sz1, sz2, sz3, sz4, sz5, sz6, kt1, kt2, kt3, kt4, kt5, kt6, kt7, kt8, kt9, kt10, kt11, kt12, kt13, kt14, kt15, f_2, h1, h]
  · simp -implicitDefEqProofs [runF, exs, ex, evb, evi, evc, evo, ev, evs, getE, callD, argsAt, outsAt, outsOf, IEs.owns, binD, cmpD, biD, addD, subD, leD, ltD, isiD, truD, negD, isL, eq_int, itemsD, bindT, len_dI, sz0, sz1, sz2, sz3, sz4, sz5, sz6, kt1, kt2, kt3, kt4, kt5, kt6, kt7, kt8, kt9, kt10, kt11, kt12, kt13, kt14, kt15, f_2, h1, h]
theorem eqn {a b : Int} (h : a = b) : eqD (.int a) (.int b) = some true := by rw [eq_int, h]; simp
theorem are_counts_at {k : Nat} (hk : 3 ≤ k) {xs : List Int} {n lo hi : Int} (hn : n = xs.length) (h : ∀ x ∈ xs, 0 ≤ x ∧ lo ≤ x ∧ x ≤ hi) (hl : xs.length ≤ sizeLine) : CF T k 3 [dI xs, .int n, .int lo, .int hi] = .ret (.bl true) [] := by
  subst hn
  obtain ⟨k, rfl⟩ : ∃ j, k = j + 1 := ⟨k - 1, by omega⟩
  have e : ev (CF T k) l_3_0 [some (dI xs), some (.int xs.length), some (.int lo), some (.int hi), none] = .ok (.lst []) [some (dI xs), some (.int xs.length), some (.int lo), some (.int hi), none] := by
    have := ev_lc1 (C := CF T k) (i := 4) (it := .val (.var 0)) (c := .some (.or (.not (.call 1 (.cons (.var 4) .nil))) (.not (.chn .LtE .LtE (.var 2) (.var 4) (.var 3))))) (e := .var 4) (env := [some (dI xs), some (.int xs.length), some (.int lo), some (.int hi), none]) (p := fun _ => false) (g := .int) (inj := .int) xs (by simp) (by simp -implicitDefEqProofs [runF, exs, ex, evb, evi, evc, evo, ev, evs, getE, callD, argsAt, outsAt, outsOf, IEs.owns, binD, cmpD, biD, addD, subD, leD, ltD, isiD, truD, negD, isL, eq_int, itemsD, bindT, len_dI, sz0, sz1, sz2, sz3, sz4, sz5, sz6, kt1, kt2, kt3, kt4, kt5, kt6, kt7, kt8, kt9, kt10, kt11, kt12, kt13, kt14, kt15, ]) hl (fun x hx => by
      obtain ⟨h1, h2, h3⟩ := h x hx
      simp -implicitDefEqProofs [runF, exs, ex, evb, evi, evc, evo, ev, evs, getE, callD, argsAt, outsAt, outsOf, IEs.owns, binD, cmpD, biD, addD, subD, leD, ltD, isiD, truD, negD, isL, eq_int, itemsD, bindT, len_dI, sz0, sz1, sz2, sz3, sz4, sz5, sz6, kt1, kt2, kt3, kt4, kt5, kt6, kt7, kt8, kt9, kt10, kt11, kt12, kt13, kt14, kt15, is_count_at (k := k) (by omega) x, h1, h2, h3]) (fun x _ h => by cases h)
    rw [List.filter_eq_nil_iff.mpr (fun _ _ => by simp)] at this
    exact this
  rw [cf_3]
  simp -implicitDefEqProofs [runF, exs, ex, evb, evi, evc, evo, ev, evs, getE, callD, argsAt, outsAt, outsOf, IEs.owns, binD, cmpD, biD, addD, subD, leD, ltD, isiD, truD, negD, isL, eq_int, itemsD, bindT, len_dI, sz0, sz1, sz2, sz3, sz4, sz5, sz6, kt1, kt2, kt3, kt4, kt5, kt6, kt7, kt8, kt9, kt10, kt11, kt12, kt13, kt14, kt15, f_3, e, eq_nil]
/-- times and weights, perhaps none -/
structure Jb (ts ws : List Int) : Prop where
  l2 : ts.length ≤ 12
  lw : ws.length = ts.length
  t : ∀ x ∈ ts, 1 ≤ x ∧ x ≤ 1000
  w : ∀ x ∈ ws, 0 ≤ x ∧ x ≤ 1000
/-- what the program asks of times and weights -/
structure Jobs (ts ws : List Int) : Prop extends Jb ts ws where
  l1 : 1 ≤ ts.length
theorem sz12 {n : Nat} (h : n ≤ 1000) : n ≤ sizeLine := Nat.le_trans h (by decide)
theorem check_times_at {k : Nat} (hk : 5 ≤ k) {ts ws : List Int} (J : Jobs ts ws) : CF T k 5 [dI ts] = .ret .non [] := by
  obtain ⟨k, rfl⟩ : ∃ j, k = j + 1 := ⟨k - 1, by omega⟩
  have h1 : CF T k 4 [dI ts] = .ret (.bl true) [] := by
    obtain ⟨k, rfl⟩ : ∃ j, k = j + 1 := ⟨k - 1, by omega⟩
    have h2 := are_counts_at (k := k) (by omega) (xs := ts) (n := ts.length) (lo := 1) (hi := 1000) rfl (fun x hx => by have := J.t x hx; omega) (sz12 (by have := J.l2; omega))
    have a1 : (1 : Int) ≤ ts.length := by have := J.l1; omega
    have a2 : (ts.length : Int) ≤ 12 := by have := J.l2; omega
    rw [cf_4]
    simp -implicitDefEqProofs [runF, exs, ex, evb, evi, evc, evo, ev, evs, getE, callD, argsAt, outsAt, outsOf, IEs.owns, binD, cmpD, biD, addD, subD, leD, ltD, isiD, truD, negD, isL, eq_int, itemsD, bindT, len_dI, sz0, sz1, sz2, sz3, sz4, sz5, sz6, kt1, kt2, kt3, kt4, kt5, kt6, kt7, kt8, kt9, kt10, kt11, kt12, kt13, kt14, kt15, f_4, h2, a1, a2]
  rw [cf_5]
  simp -implicitDefEqProofs [runF, exs, ex, evb, evi, evc, evo, ev, evs, getE, callD, argsAt, outsAt, outsOf, IEs.owns, binD, cmpD, biD, addD, subD, leD, ltD, isiD, truD, negD, isL, eq_int, itemsD, bindT, len_dI, sz0, sz1, sz2, sz3, sz4, sz5, sz6, kt1, kt2, kt3, kt4, kt5, kt6, kt7, kt8, kt9, kt10, kt11, kt12, kt13, kt14, kt15, f_5, h1]
theorem check_weights_at {k : Nat} (hk : 5 ≤ k) {ts ws : List Int} (J : Jobs ts ws) : CF T k 7 [.int ts.length, dI ws] = .ret .non [] := by
  obtain ⟨k, rfl⟩ : ∃ j, k = j + 1 := ⟨k - 1, by omega⟩
  have h1 : CF T k 6 [.int ts.length, dI ws] = .ret (.bl true) [] := by
    obtain ⟨k, rfl⟩ : ∃ j, k = j + 1 := ⟨k - 1, by omega⟩
    have h2 := are_counts_at (k := k) (by omega) (xs := ws) (n := ts.length) (lo := 0) (hi := 1000) (by rw [J.lw]) (fun x hx => by have := J.w x hx; omega) (sz12 (by have := J.l2; have := J.lw; omega))
    rw [cf_6]
    simp -implicitDefEqProofs [runF, exs, ex, evb, evi, evc, evo, ev, evs, getE, callD, argsAt, outsAt, outsOf, IEs.owns, binD, cmpD, biD, addD, subD, leD, ltD, isiD, truD, negD, isL, eq_int, itemsD, bindT, len_dI, sz0, sz1, sz2, sz3, sz4, sz5, sz6, kt1, kt2, kt3, kt4, kt5, kt6, kt7, kt8, kt9, kt10, kt11, kt12, kt13, kt14, kt15, f_6, h2]
  rw [cf_7]
  simp -implicitDefEqProofs [runF, exs, ex, evb, evi, evc, evo, ev, evs, getE, callD, argsAt, outsAt, outsOf, IEs.owns, binD, cmpD, biD, addD, subD, leD, ltD, isiD, truD, negD, isL, eq_int, itemsD, bindT, len_dI, sz0, sz1, sz2, sz3, sz4, sz5, sz6, kt1, kt2, kt3, kt4, kt5, kt6, kt7, kt8, kt9, kt10, kt11, kt12, kt13, kt14, kt15, f_7, h1]
theorem check_jobs_at {k : Nat} (hk : 6 ≤ k) {ts ws : List Int} (J : Jobs ts ws) : CF T k 10 [dI ts, dI ws] = .ret .non [] := by
  obtain ⟨k, rfl⟩ : ∃ j, k = j + 1 := ⟨k - 1, by omega⟩
  have h1 := check_times_at (k := k) (by omega) J
  have h2 := check_weights_at (k := k) (by omega) J
  rw [cf_10]
  simp -implicitDefEqProofs [runF, exs, ex, evb, evi, evc, evo, ev, evs, getE, callD, argsAt, outsAt, outsOf, IEs.owns, binD, cmpD, biD, addD, subD, leD, ltD, isiD, truD, negD, isL, eq_int, itemsD, bindT, len_dI, sz0, sz1, sz2, sz3, sz4, sz5, sz6, kt1, kt2, kt3, kt4, kt5, kt6, kt7, kt8, kt9, kt10, kt11, kt12, kt13, kt14, kt15, f_10, h1, h2]
/-- a row of all jobs below n -/
structure IsRow (n : Nat) (r : List Int) : Prop where
  len : r.length = n
  nd : r.Nodup
  rg : ∀ i ∈ r, 0 ≤ i ∧ i < n
theorem check_job_at {k : Nat} (hk : 5 ≤ k) {n j : Int} (h0 : 0 ≤ j) (h1 : j < n) : CF T k 8 [.int n, .int j] = .ret .non [] := by
  obtain ⟨k, rfl⟩ : ∃ j, k = j + 1 := ⟨k - 1, by omega⟩
  have h2 := is_below_at (k := k) (by omega) j n
  rw [cf_8]
  simp -implicitDefEqProofs [runF, exs, ex, evb, evi, evc, evo, ev, evs, getE, callD, argsAt, outsAt, outsOf, IEs.owns, binD, cmpD, biD, addD, subD, leD, ltD, isiD, truD, negD, isL, eq_int, itemsD, bindT, len_dI, sz0, sz1, sz2, sz3, sz4, sz5, sz6, kt1, kt2, kt3, kt4, kt5, kt6, kt7, kt8, kt9, kt10, kt11, kt12, kt13, kt14, kt15, f_8, h2, h0, h1]
theorem fm_nodup : ∀ (r : List Int), r.Nodup → PyProof.Rows.firstMet (fun i => r.getD i 0) r.length = r := by
  have go : ∀ (r : List Int), r.Nodup → ∀ n, n ≤ r.length → PyProof.Rows.firstMet (fun i => r.getD i 0) n = r.take n := by
    intro r nd n
    induction n with
    | zero => intro _; simp [PyProof.Rows.firstMet]
    | succ n ih =>
      intro hn
      rw [PyProof.Rows.firstMet_succ, ih (by omega)]
      have hlt : n < r.length := by omega
      have e : r.getD n 0 = r[n] := by simp [hlt]
      rw [e]
      unfold PyProof.Rows.step_dedup
      rw [if_neg, List.take_append_getElem hlt]
      intro h
      obtain ⟨y, hy, hb⟩ := List.any_eq_true.mp h
      have hb : y = r[n] := by simpa using hb
      rw [hb] at hy
      obtain ⟨i, hi, e2⟩ := List.mem_iff_getElem.mp hy
      rw [List.length_take] at hi
      rw [List.getElem_take] at e2
      have := (List.getElem_inj nd).mp e2
      omega
  intro r nd
  rw [go r nd r.length (Nat.le_refl _), List.take_length]
theorem is_row_of_at {k : Nat} (hk : 4 ≤ k) {n : Nat} {r : List Int} (h : IsRow n r) (hn : n ≤ 1000) : CF T k 9 [.int n, dI r] = .ret (.bl true) [] := by
  obtain ⟨k, rfl⟩ : ∃ j, k = j + 1 := ⟨k - 1, by omega⟩
  have e : ev (CF T k) l_9_0 [some (.int n), some (dI r), none] = .ok (.lst []) [some (.int n), some (dI r), none] := by
    have := ev_lc1 (C := CF T k) (i := 2) (it := .val (.var 1)) (c := .some (.not (.call 2 (.cons (.var 2) (.cons (.var 0) .nil))))) (e := .var 2) (env := [some (.int n), some (dI r), none]) (p := fun _ => false) (g := .int) (inj := .int) r (by simp) (by simp -implicitDefEqProofs [runF, exs, ex, evb, evi, evc, evo, ev, evs, getE, callD, argsAt, outsAt, outsOf, IEs.owns, binD, cmpD, biD, addD, subD, leD, ltD, isiD, truD, negD, isL, eq_int, itemsD, bindT, len_dI, sz0, sz1, sz2, sz3, sz4, sz5, sz6, kt1, kt2, kt3, kt4, kt5, kt6, kt7, kt8, kt9, kt10, kt11, kt12, kt13, kt14, kt15, ]) (sz12 (by rw [h.len]; exact hn)) (fun x hx => by
      obtain ⟨h1, h2⟩ := h.rg x hx
      simp -implicitDefEqProofs [runF, exs, ex, evb, evi, evc, evo, ev, evs, getE, callD, argsAt, outsAt, outsOf, IEs.owns, binD, cmpD, biD, addD, subD, leD, ltD, isiD, truD, negD, isL, eq_int, itemsD, bindT, len_dI, sz0, sz1, sz2, sz3, sz4, sz5, sz6, kt1, kt2, kt3, kt4, kt5, kt6, kt7, kt8, kt9, kt10, kt11, kt12, kt13, kt14, kt15, is_below_at (k := k) (by omega) x n, h1, h2]) (fun x _ h => by cases h)
    rw [List.filter_eq_nil_iff.mpr (fun _ _ => by simp)] at this
    exact this
  have e2 : lensetD (dI r) = some (.int n) := by
    show (if (r.map D.int).length ≤ 4000 then (intsOf (r.map D.int)).map (fun ns => D.int ((PyProof.Rows.firstMet (fun i => ns.getD i 0) ns.length).length : Nat)) else none) = _
    rw [List.length_map, if_pos (by rw [h.len]; omega), intsOf_map]
    simp only [Option.map_some]
    rw [fm_nodup r h.nd, h.len]
  rw [cf_9]
  simp -implicitDefEqProofs [runF, exs, ex, evb, evi, evc, evo, ev, evs, getE, callD, argsAt, outsAt, outsOf, IEs.owns, binD, cmpD, biD, addD, subD, leD, ltD, isiD, truD, negD, isL, eq_int, itemsD, bindT, len_dI, sz0, sz1, sz2, sz3, sz4, sz5, sz6, kt1, kt2, kt3, kt4, kt5, kt6, kt7, kt8, kt9, kt10, kt11, kt12, kt13, kt14, kt15, f_9, e, eq_nil, h.len, e2]
theorem check_any_row_at {k : Nat} (hk : 5 ≤ k) {ts r : List Int} (h : IsRow ts.length r) (hn : ts.length ≤ 1000) : CF T k 11 [dI ts, dI r] = .ret .non [] := by
  obtain ⟨k, rfl⟩ : ∃ j, k = j + 1 := ⟨k - 1, by omega⟩
  have h1 := is_row_of_at (k := k) (by omega) h hn
  rw [cf_11]
  simp -implicitDefEqProofs [runF, exs, ex, evb, evi, evc, evo, ev, evs, getE, callD, argsAt, outsAt, outsOf, IEs.owns, binD, cmpD, biD, addD, subD, leD, ltD, isiD, truD, negD, isL, eq_int, itemsD, bindT, len_dI, sz0, sz1, sz2, sz3, sz4, sz5, sz6, kt1, kt2, kt3, kt4, kt5, kt6, kt7, kt8, kt9, kt10, kt11, kt12, kt13, kt14, kt15, f_11, h1]
end LT
namespace LT
open PySem VI
/-! W2: ends, costs, gains -/
theorem Jb.ti {ts ws : List Int} (J : Jb ts ws) {i : Int} (h0 : 0 ≤ i) (h1 : i < ts.length) : 1 ≤ at_ ts i ∧ at_ ts i ≤ 1000 := by
  unfold at_
  have h : i.toNat < ts.length := by omega
  have := J.t _ (List.getElem_mem h)
  simpa [h] using this
theorem Jb.wi {ts ws : List Int} (J : Jb ts ws) {i : Int} (h0 : 0 ≤ i) (h1 : i < ts.length) : 0 ≤ at_ ws i ∧ at_ ws i ≤ 1000 := by
  unfold at_
  have h : i.toNat < ws.length := by have := J.lw; omega
  have := J.w _ (List.getElem_mem h)
  simpa [h] using this
def endSt (ts : List Int) (s : Int × List Int) (j : Int) : Int × List Int := (s.1 + at_ ts j, s.2.set j.toNat (s.1 + at_ ts j))
def endsF (ts r : List Int) : List Int := (r.foldl (endSt ts) (0, List.replicate ts.length 0)).2
def endD (ts : List Int) (s : Int × List Int) (d : D) : Int × List Int := match d with
  | .int j => endSt ts s j
  | _ => s
theorem ends_of_at {k : Nat} (hk : 1 ≤ k) {ts ws r : List Int} (J : Jobs ts ws) (h : IsRow ts.length r) : CF T k 12 [dI ts, dI r] = .ret (dI (endsF ts r)) [] ∧ (endsF ts r).length = ts.length ∧ ∀ e ∈ endsF ts r, 0 ≤ e ∧ e ≤ 12000 := by
  obtain ⟨k, rfl⟩ : ∃ j, k = j + 1 := ⟨k - 1, by omega⟩
  have hn : ts.length ≤ 12 := J.l2
  have step := forD_runI (t := .nm 4) (b := exs (CF T k) w_12_0) (mk := fun (s : Int × List Int) o => [some (dI ts), some (dI r), some (dI s.2), some (.int s.1), o]) (f := endD ts) (P := fun i s => s.2.length = ts.length ∧ 0 ≤ s.1 ∧ s.1 ≤ 1000 * (i : Int) ∧ ∀ e ∈ s.2, 0 ≤ e ∧ e ≤ 1000 * (i : Int)) (r.map .int) 0 (fun i s x o hx hs => by
    obtain ⟨j, hj, rfl⟩ := List.mem_map.mp hx
    obtain ⟨h0, h1⟩ := h.rg j hj
    obtain ⟨p1, p2, p3, p4⟩ := hs
    obtain ⟨t1, t2⟩ := J.ti h0 h1
    have e1 := idx_at (xs := ts) h0 h1
    have e2 : L2.ixN s.2.length j = some j.toNat := ixN_of h0 (by rw [p1]; exact h1)
    refine ⟨by simp [bindT], ?_, ?_, ?_, ?_, fun e he => ?_⟩
    · simp -implicitDefEqProofs [runF, exs, ex, evb, evi, evc, evo, ev, evs, getE, callD, argsAt, outsAt, outsOf, IEs.owns, binD, cmpD, biD, addD, subD, leD, ltD, isiD, truD, negD, isL, eq_int, itemsD, bindT, len_dI, sz0, sz1, sz2, sz3, sz4, sz5, sz6, kt1, kt2, kt3, kt4, kt5, kt6, kt7, kt8, kt9, kt10, kt11, kt12, kt13, kt14, kt15, w_12_0, e1, e2, endD, endSt, List.map_set]
    · show (s.2.set _ _).length = _
      rw [List.length_set]; exact p1
    · show 0 ≤ s.1 + at_ ts j
      omega
    · show s.1 + at_ ts j ≤ 1000 * ((i + 1 : Nat) : Int)
      omega
    · have he : e ∈ s.2.set j.toNat (s.1 + at_ ts j) := he
      rcases List.mem_or_eq_of_mem_set he with q | q
      · have := p4 e q
        constructor <;> omega
      · constructor <;> omega) (0, List.replicate ts.length 0) none ⟨by simp, by simp, by simp, fun e he => by
    have := List.eq_of_mem_replicate he
    subst this
    simp⟩
  obtain ⟨o', e, q⟩ := step
  have hf : ∀ (l : List Int) s, (l.map D.int).foldl (endD ts) s = l.foldl (endSt ts) s := fun l => by
    induction l with
    | nil => intro s; rfl
    | cons a l ih => intro s; simp only [List.map_cons, List.foldl_cons]; exact ih _
  rw [hf] at e q
  have hm : mulD (.lst [.int 0]) (.int ts.length) = some (dI (List.replicate ts.length 0)) := by
    rw [mul_rep (by omega)]
    simp
  refine ⟨?_, q.1, fun e he => ?_⟩
  · rw [cf_12]
    have e0 : ev (CF T k) (.bin .Mult (.lst (.cons (.int 0) .nil)) (.bi .len (.cons (.var 0) .nil))) [some (dI ts), some (dI r), none, none, none] = .ok (dI (List.replicate ts.length 0)) [some (dI ts), some (dI r), none, none, none] := ev_bin (env1 := [some (dI ts), some (dI r), none, none, none]) (x := .lst [.int 0]) (y := .int ts.length) (by simp -implicitDefEqProofs [runF, exs, ex, evb, evi, evc, evo, ev, evs, getE, callD, argsAt, outsAt, outsOf, IEs.owns, binD, cmpD, biD, addD, subD, leD, ltD, isiD, truD, negD, isL, eq_int, itemsD, bindT, len_dI, sz0, sz1, sz2, sz3, sz4, sz5, sz6, kt1, kt2, kt3, kt4, kt5, kt6, kt7, kt8, kt9, kt10, kt11, kt12, kt13, kt14, kt15, ]) (by simp -implicitDefEqProofs [runF, exs, ex, evb, evi, evc, evo, ev, evs, getE, callD, argsAt, outsAt, outsOf, IEs.owns, binD, cmpD, biD, addD, subD, leD, ltD, isiD, truD, negD, isL, eq_int, itemsD, bindT, len_dI, sz0, sz1, sz2, sz3, sz4, sz5, sz6, kt1, kt2, kt3, kt4, kt5, kt6, kt7, kt8, kt9, kt10, kt11, kt12, kt13, kt14, kt15, ]) hm
    refine runF_ret (env := [some (dI ts), some (dI r), some (dI (endsF ts r)), some (.int (r.foldl (endSt ts) (0, List.replicate ts.length 0)).1), o']) ?_ rfl rfl rfl
    refine (exs_next (ex_set e0 (fun _ => rfl) (by simp))).trans ?_
    simp -implicitDefEqProofs [runF, exs, ex, evb, evi, evc, evo, ev, evs, getE, callD, argsAt, outsAt, outsOf, IEs.owns, binD, cmpD, biD, addD, subD, leD, ltD, isiD, truD, negD, isL, eq_int, itemsD, bindT, len_dI, sz0, sz1, sz2, sz3, sz4, sz5, sz6, kt1, kt2, kt3, kt4, kt5, kt6, kt7, kt8, kt9, kt10, kt11, kt12, kt13, kt14, kt15, e, endsF]
  · have := q.2.2.2 e he
    have := h.len
    simp only [Nat.zero_add, List.length_map] at *
    constructor <;> omega
/-- the gain of an exchange: a ahead, b behind -/
def gn (ts ws : List Int) (a b : Int) : Int := at_ ws b * at_ ts a - at_ ws a * at_ ts b
theorem gain_of_at {k : Nat} (hk : 1 ≤ k) {ts ws : List Int} (J : Jobs ts ws) {a b : Int} (a0 : 0 ≤ a) (a1 : a < ts.length) (b0 : 0 ≤ b) (b1 : b < ts.length) : CF T k 14 [dI ts, dI ws, .int a, .int b] = .ret (.int (gn ts ws a b)) [] := by
  obtain ⟨k, rfl⟩ : ∃ j, k = j + 1 := ⟨k - 1, by omega⟩
  have lw := J.lw
  have e1 := idx_at (xs := ts) a0 a1
  have e2 := idx_at (xs := ts) b0 b1
  have e3 := idx_at (xs := ws) a0 (by rw [lw]; exact a1)
  have e4 := idx_at (xs := ws) b0 (by rw [lw]; exact b1)
  obtain ⟨t1, t2⟩ := J.ti a0 a1
  obtain ⟨t3, t4⟩ := J.ti b0 b1
  obtain ⟨w1, w2⟩ := J.wi a0 a1
  obtain ⟨w3, w4⟩ := J.wi b0 b1
  have m1 := mul_sm (x := at_ ws b) (y := at_ ts a) (sm_of (by omega) (by omega)) (sm_of (by omega) (by omega))
  have m2 := mul_sm (x := at_ ws a) (y := at_ ts b) (sm_of (by omega) (by omega)) (sm_of (by omega) (by omega))
  rw [cf_14]
  simp -implicitDefEqProofs [runF, exs, ex, evb, evi, evc, evo, ev, evs, getE, callD, argsAt, outsAt, outsOf, IEs.owns, binD, cmpD, biD, addD, subD, leD, ltD, isiD, truD, negD, isL, eq_int, itemsD, bindT, len_dI, sz0, sz1, sz2, sz3, sz4, sz5, sz6, kt1, kt2, kt3, kt4, kt5, kt6, kt7, kt8, kt9, kt10, kt11, kt12, kt13, kt14, kt15, f_14, e1, e2, e3, e4, m1, m2, gn]
def costF (ts ws r : List Int) : Int := ((List.range ts.length).map fun (i : Nat) => at_ ws i * at_ (endsF ts r) i).sum
theorem at_mem {xs : List Int} {i : Nat} (h : i < xs.length) : at_ xs i ∈ xs := by
  unfold at_
  simp [h]
theorem cost_of_at {k : Nat} (hk : 2 ≤ k) {ts ws r : List Int} (J : Jobs ts ws) (h : IsRow ts.length r) : CF T k 13 [dI ts, dI ws, dI r] = .ret (.int (costF ts ws r)) [] := by
  obtain ⟨k, rfl⟩ : ∃ j, k = j + 1 := ⟨k - 1, by omega⟩
  obtain ⟨h1, h2, h3⟩ := ends_of_at (k := k) (by omega) J h
  have lw := J.lw
  have hn := J.l2
  have e1 : ev (CF T k) l_13_0 [some (dI ts), some (dI ws), some (dI r), some (dI (endsF ts r)), none, none] = .ok (dI ((List.range ts.length).map fun (i : Nat) => at_ ws i * at_ (endsF ts r) i)) [some (dI ts), some (dI ws), some (dI r), some (dI (endsF ts r)), none, none] := by
    have := ev_lcm2 (α := Nat) (C := CF T k) (i := 4) (j := 5) (it := .enum (.var 1)) (e := .bin .Mult (.var 5) (.idx (.var 3) (.var 4))) (env := [some (dI ts), some (dI ws), some (dI r), some (dI (endsF ts r)), none, none]) (u := fun (i : Nat) => .int i) (v := fun (i : Nat) => .int (at_ ws i)) (g := fun (i : Nat) => .int (at_ ws i * at_ (endsF ts r) i)) (List.range ts.length) (by decide) (by simp) (by simp) (by
      simp -implicitDefEqProofs [runF, exs, ex, evb, evi, evc, evo, ev, evs, getE, callD, argsAt, outsAt, outsOf, IEs.owns, binD, cmpD, biD, addD, subD, leD, ltD, isiD, truD, negD, isL, eq_int, itemsD, bindT, len_dI, sz0, sz1, sz2, sz3, sz4, sz5, sz6, kt1, kt2, kt3, kt4, kt5, kt6, kt7, kt8, kt9, kt10, kt11, kt12, kt13, kt14, kt15, ]
      rw [enum_dI, lw]
      simp [at_]) (sz12 (by simp; omega)) (fun i hi => by
      have hi : i < ts.length := by simpa using hi
      have a1 := idx_at (xs := endsF ts r) (i := (i : Int)) (by omega) (by omega)
      have b1 := h3 _ (at_mem (xs := endsF ts r) (i := i) (by omega))
      have b2 := J.wi (i := (i : Int)) (by omega) (by omega)
      have m1 := mul_sm (x := at_ ws i) (y := at_ (endsF ts r) i) (sm_of (by omega) (by omega)) (sm_of (by omega) (by omega))
      simp -implicitDefEqProofs [runF, exs, ex, evb, evi, evc, evo, ev, evs, getE, callD, argsAt, outsAt, outsOf, IEs.owns, binD, cmpD, biD, addD, subD, leD, ltD, isiD, truD, negD, isL, eq_int, itemsD, bindT, len_dI, sz0, sz1, sz2, sz3, sz4, sz5, sz6, kt1, kt2, kt3, kt4, kt5, kt6, kt7, kt8, kt9, kt10, kt11, kt12, kt13, kt14, kt15, a1, m1])
    rw [dI_map (fun (i : Nat) => at_ ws i * at_ (endsF ts r) i)]
    exact this
  have e2 := sum_dI ((List.range ts.length).map fun (i : Nat) => at_ ws i * at_ (endsF ts r) i)
  rw [cf_13]
  refine runF_ret (env := [some (dI ts), some (dI ws), some (dI r), some (dI (endsF ts r)), none, none]) ?_ rfl rfl rfl
  show exs (CF T k) f_13.body [some (dI ts), some (dI ws), some (dI r), none, none, none] = _
  refine (exs_next (ex_set (d := dI (endsF ts r)) (env1 := [some (dI ts), some (dI ws), some (dI r), none, none, none]) (by simp -implicitDefEqProofs [runF, exs, ex, evb, evi, evc, evo, ev, evs, getE, callD, argsAt, outsAt, outsOf, IEs.owns, binD, cmpD, biD, addD, subD, leD, ltD, isiD, truD, negD, isL, eq_int, itemsD, bindT, len_dI, sz0, sz1, sz2, sz3, sz4, sz5, sz6, kt1, kt2, kt3, kt4, kt5, kt6, kt7, kt8, kt9, kt10, kt11, kt12, kt13, kt14, kt15, h1]) (fun h => by cases h) (by simp))).trans ?_
  exact exs_ret (ex_ret (ev_bi1 e1 e2))
theorem waiting_cost_at {k : Nat} (hk : 7 ≤ k) {ts ws r : List Int} (J : Jobs ts ws) (h : IsRow ts.length r) : CF T k 15 [dI ts, dI ws, dI r] = .ret (.int (costF ts ws r)) [] := by
  obtain ⟨k, rfl⟩ : ∃ j, k = j + 1 := ⟨k - 1, by omega⟩
  have h1 := check_jobs_at (k := k) (by omega) J
  have h2 := check_any_row_at (k := k) (by omega) h (by have := J.l2; omega)
  have h3 := cost_of_at (k := k) (by omega) J h
  rw [cf_15]
  simp -implicitDefEqProofs [runF, exs, ex, evb, evi, evc, evo, ev, evs, getE, callD, argsAt, outsAt, outsOf, IEs.owns, binD, cmpD, biD, addD, subD, leD, ltD, isiD, truD, negD, isL, eq_int, itemsD, bindT, len_dI, sz0, sz1, sz2, sz3, sz4, sz5, sz6, kt1, kt2, kt3, kt4, kt5, kt6, kt7, kt8, kt9, kt10, kt11, kt12, kt13, kt14, kt15, f_15, h1, h2, h3]
/-- a pair's least share -/
def mn (ts ws : List Int) (a b : Int) : Int := min (at_ ws a * at_ ts b) (at_ ws b * at_ ts a)
def leastF (ts ws : List Int) : Int := (List.range ts.length).foldl (fun (s : Int) (j : Nat) => (List.range j).foldl (fun (s : Int) (o : Nat) => s + mn ts ws j o) (s + at_ ws j * at_ ts j)) 0
theorem min_D (i j : Int) : biD .min [.int i, .int j] = some (.int (min i j)) := by
  show some (D.int (if j < i then j else i)) = _
  congr 2
  omega
theorem least_of_at {k : Nat} (hk : 1 ≤ k) {ts ws : List Int} (J : Jb ts ws) : CF T k 16 [dI ts, dI ws] = .ret (.int (leastF ts ws)) [] := by
  obtain ⟨k, rfl⟩ : ∃ j, k = j + 1 := ⟨k - 1, by omega⟩
  have lw := J.lw
  have hn := J.l2
  have inner : ∀ (j : Nat), j < ts.length → ∀ (s : Int) (o : Option D), ∃ o', forD (.nm 5) (exs (CF T k) w_16_0) (rangeD 0 j) [some (dI ts), some (dI ws), some (.int s), some (.int j), some (.int (at_ ts j)), o] = .next [some (dI ts), some (dI ws), some (.int ((List.range j).foldl (fun (s : Int) (o : Nat) => s + mn ts ws j o) s)), some (.int j), some (.int (at_ ts j)), o'] := by
    intro j hj s o
    rw [range_dI]
    obtain ⟨o', e, _⟩ := forD_runG (t := .nm 5) (b := exs (CF T k) w_16_0) (mk := fun (s : Int) (o : Option D) => [some (dI ts), some (dI ws), some (.int s), some (.int j), some (.int (at_ ts j)), o]) (inj := fun (i : Nat) => D.int (0 + (i : Nat))) (f := fun (s : Int) (o : Nat) => s + mn ts ws j o) (P := fun _ _ => True) (List.range j) 0 (fun i s x o hx _ => by
      have hx : x < j := by simpa using hx
      refine ⟨_, some (.int x), by simp [bindT]; rfl, ?_, trivial⟩
      have e1 := idx_at (xs := ts) (i := (x : Int)) (by omega) (by omega)
      have e2 := idx_at (xs := ws) (i := (j : Int)) (by omega) (by omega)
      have e3 := idx_at (xs := ws) (i := (x : Int)) (by omega) (by omega)
      obtain ⟨t1, t2⟩ := J.ti (i := (x : Int)) (by omega) (by omega)
      obtain ⟨t3, t4⟩ := J.ti (i := (j : Int)) (by omega) (by omega)
      obtain ⟨w1, w2⟩ := J.wi (i := (x : Int)) (by omega) (by omega)
      obtain ⟨w3, w4⟩ := J.wi (i := (j : Int)) (by omega) (by omega)
      have m1 := mul_sm (x := at_ ws j) (y := at_ ts x) (sm_of (by omega) (by omega)) (sm_of (by omega) (by omega))
      have m2 := mul_sm (x := at_ ws x) (y := at_ ts j) (sm_of (by omega) (by omega)) (sm_of (by omega) (by omega))
      have e4 := min_D (at_ ws j * at_ ts x) (at_ ws x * at_ ts j)
      have ed : ev (CF T k) (.bi .min (.cons (.bin .Mult (.idx (.var 1) (.var 3)) (.idx (.var 0) (.var 5))) (.cons (.bin .Mult (.idx (.var 1) (.var 5)) (.var 4)) .nil))) [some (dI ts), some (dI ws), some (.int s), some (.int j), some (.int (at_ ts j)), some (.int x)] = .ok (.int (mn ts ws j x)) [some (dI ts), some (dI ws), some (.int s), some (.int j), some (.int (at_ ts j)), some (.int x)] := by
        rw [ev]
        have : evs (CF T k) (.cons (.bin .Mult (.idx (.var 1) (.var 3)) (.idx (.var 0) (.var 5))) (.cons (.bin .Mult (.idx (.var 1) (.var 5)) (.var 4)) .nil)) [some (dI ts), some (dI ws), some (.int s), some (.int j), some (.int (at_ ts j)), some (.int x)] = .ok [.int (at_ ws j * at_ ts x), .int (at_ ws x * at_ ts j)] [some (dI ts), some (dI ws), some (.int s), some (.int j), some (.int (at_ ts j)), some (.int x)] := by
          simp -implicitDefEqProofs [runF, exs, ex, evb, evi, evc, evo, ev, evs, getE, callD, argsAt, outsAt, outsOf, IEs.owns, binD, cmpD, biD, addD, subD, leD, ltD, isiD, truD, negD, isL, eq_int, itemsD, bindT, len_dI, sz0, sz1, sz2, sz3, sz4, sz5, sz6, kt1, kt2, kt3, kt4, kt5, kt6, kt7, kt8, kt9, kt10, kt11, kt12, kt13, kt14, kt15, e1, e2, e3, m1, m2]
        rw [this]
        simp only [Res.bind_ok]
        rw [e4]
        rfl
      unfold w_16_0
      refine (exs_next (ex_set (ev_bin (env1 := [some (dI ts), some (dI ws), some (.int s), some (.int j), some (.int (at_ ts j)), some (.int x)]) (x := .int s) (by simp -implicitDefEqProofs [runF, exs, ex, evb, evi, evc, evo, ev, evs, getE, callD, argsAt, outsAt, outsOf, IEs.owns, binD, cmpD, biD, addD, subD, leD, ltD, isiD, truD, negD, isL, eq_int, itemsD, bindT, len_dI, sz0, sz1, sz2, sz3, sz4, sz5, sz6, kt1, kt2, kt3, kt4, kt5, kt6, kt7, kt8, kt9, kt10, kt11, kt12, kt13, kt14, kt15, ]) (by simpa using ed) rfl) (fun h => by cases h) (by simp))).trans ?_
      simp [exs_nil]) s o trivial
    exact ⟨o', e⟩
  obtain ⟨o', e, _⟩ := forD_runG (t := .tp [3, 4]) (b := exs (CF T k) w_16_1) (mk := fun (s : Int) (o : Option D × Option D × Option D) => [some (dI ts), some (dI ws), some (.int s), o.1, o.2.1, o.2.2]) (inj := fun (i : Nat) => D.tup [.int ((0 + i : Nat) : Int), .int (ts.getD i 0)]) (f := fun (s : Int) (j : Nat) => (List.range j).foldl (fun (s : Int) (o : Nat) => s + mn ts ws j o) (s + at_ ws j * at_ ts j)) (P := fun _ _ => True) (List.range ts.length) 0 (fun i s x o hx _ => by
      have hx : x < ts.length := by simpa using hx
      obtain ⟨o', hin⟩ := inner x hx (s + at_ ws x * at_ ts x) o.2.2
      refine ⟨_, (some (.int x), some (.int (at_ ts x)), o'), by simp [bindT, at_]; rfl, ?_, trivial⟩
      have e2 := idx_at (xs := ws) (i := (x : Int)) (by omega) (by omega)
      obtain ⟨t3, t4⟩ := J.ti (i := (x : Int)) (by omega) (by omega)
      obtain ⟨w3, w4⟩ := J.wi (i := (x : Int)) (by omega) (by omega)
      have m1 := mul_sm (x := at_ ws x) (y := at_ ts x) (sm_of (by omega) (by omega)) (sm_of (by omega) (by omega))
      have e5 : ts[x]?.getD 0 = at_ ts x := by simp [at_]
      unfold w_16_1
      rw [e5]
      refine (exs_next (ex_set (d := .int (s + at_ ws x * at_ ts x)) (env1 := [some (dI ts), some (dI ws), some (.int s), some (.int x), some (.int (at_ ts x)), o.2.2]) (by simp -implicitDefEqProofs [runF, exs, ex, evb, evi, evc, evo, ev, evs, getE, callD, argsAt, outsAt, outsOf, IEs.owns, binD, cmpD, biD, addD, subD, leD, ltD, isiD, truD, negD, isL, eq_int, itemsD, bindT, len_dI, sz0, sz1, sz2, sz3, sz4, sz5, sz6, kt1, kt2, kt3, kt4, kt5, kt6, kt7, kt8, kt9, kt10, kt11, kt12, kt13, kt14, kt15, e2, m1]) (fun h => by cases h) (by simp))).trans ?_
      refine (exs_next (env1 := _) ((ex_for (ds := rangeD 0 x) (env1 := [some (dI ts), some (dI ws), some (.int (s + at_ ws x * at_ ts x)), some (.int x), some (.int (at_ ts x)), o.2.2]) ?_).trans hin)).trans exs_nil
      have r : rngOk (x : Int) = true := rngOk_len (sz12 (by omega))
      simp -implicitDefEqProofs [runF, exs, ex, evb, evi, evc, evo, ev, evs, getE, callD, argsAt, outsAt, outsOf, IEs.owns, binD, cmpD, biD, addD, subD, leD, ltD, isiD, truD, negD, isL, eq_int, itemsD, bindT, len_dI, sz0, sz1, sz2, sz3, sz4, sz5, sz6, kt1, kt2, kt3, kt4, kt5, kt6, kt7, kt8, kt9, kt10, kt11, kt12, kt13, kt14, kt15, r]) 0 (none, none, none) trivial
  rw [cf_16]
  refine runF_ret (env := [some (dI ts), some (dI ws), some (.int (leastF ts ws)), o'.1, o'.2.1, o'.2.2]) ?_ rfl rfl rfl
  show exs (CF T k) f_16.body [some (dI ts), some (dI ws), none, none, none, none] = _
  refine (exs_next (ex_set (d := .int 0) (env1 := [some (dI ts), some (dI ws), none, none, none, none]) (by simp -implicitDefEqProofs [runF, exs, ex, evb, evi, evc, evo, ev, evs, getE, callD, argsAt, outsAt, outsOf, IEs.owns, binD, cmpD, biD, addD, subD, leD, ltD, isiD, truD, negD, isL, eq_int, itemsD, bindT, len_dI, sz0, sz1, sz2, sz3, sz4, sz5, sz6, kt1, kt2, kt3, kt4, kt5, kt6, kt7, kt8, kt9, kt10, kt11, kt12, kt13, kt14, kt15, ]) (fun h => by cases h) (by simp))).trans ?_
  refine (exs_next ((ex_for (ds := (List.range ts.length).map fun (i : Nat) => D.tup [.int ((0 + i : Nat) : Int), .int (ts.getD i 0)]) (env1 := [some (dI ts), some (dI ws), some (.int 0), none, none, none]) (by
    simp -implicitDefEqProofs [runF, exs, ex, evb, evi, evc, evo, ev, evs, getE, callD, argsAt, outsAt, outsOf, IEs.owns, binD, cmpD, biD, addD, subD, leD, ltD, isiD, truD, negD, isL, eq_int, itemsD, bindT, len_dI, sz0, sz1, sz2, sz3, sz4, sz5, sz6, kt1, kt2, kt3, kt4, kt5, kt6, kt7, kt8, kt9, kt10, kt11, kt12, kt13, kt14, kt15, ]
    rw [enum_dI]
    simp)).trans e)).trans ?_
  exact exs_ret (ex_ret (by simp -implicitDefEqProofs [runF, exs, ex, evb, evi, evc, evo, ev, evs, getE, callD, argsAt, outsAt, outsOf, IEs.owns, binD, cmpD, biD, addD, subD, leD, ltD, isiD, truD, negD, isL, eq_int, itemsD, bindT, len_dI, sz0, sz1, sz2, sz3, sz4, sz5, sz6, kt1, kt2, kt3, kt4, kt5, kt6, kt7, kt8, kt9, kt10, kt11, kt12, kt13, kt14, kt15, leastF]))
theorem least_waiting_at {k : Nat} (hk : 7 ≤ k) {ts ws : List Int} (J : Jobs ts ws) : CF T k 17 [dI ts, dI ws] = .ret (.int (leastF ts ws)) [] := by
  obtain ⟨k, rfl⟩ : ∃ j, k = j + 1 := ⟨k - 1, by omega⟩
  have h1 := check_jobs_at (k := k) (by omega) J
  have h3 := least_of_at (k := k) (by omega) J.toJb
  rw [cf_17]
  simp -implicitDefEqProofs [runF, exs, ex, evb, evi, evc, evo, ev, evs, getE, callD, argsAt, outsAt, outsOf, IEs.owns, binD, cmpD, biD, addD, subD, leD, ltD, isiD, truD, negD, isL, eq_int, itemsD, bindT, len_dI, sz0, sz1, sz2, sz3, sz4, sz5, sz6, kt1, kt2, kt3, kt4, kt5, kt6, kt7, kt8, kt9, kt10, kt11, kt12, kt13, kt14, kt15, f_17, h1, h3]
end LT
namespace LT
open PySem VI
/-! W3: rows by ratio, best rows, exchanges -/
def pickF (g : Int → Int → Int) (first : Int) (l : List Int) : Int := l.foldl (fun f j => if 0 < g f j then j else f) first
def byR (g : Int → Int → Int) : Nat → List Int → List Int
  | 0, _ => []
  | _ + 1, [] => []
  | n + 1, a :: l => pickF g a (a :: l) :: byR g n ((a :: l).filter fun j => !(j == pickF g a (a :: l)))
def jobs (n : Nat) : List Int := (List.range n).map fun (i : Nat) => (i : Int)
theorem pick_mem (g : Int → Int → Int) : ∀ (l : List Int) (f : Int), pickF g f l = f ∨ pickF g f l ∈ l
  | [], f => .inl rfl
  | j :: l, f => by
    show pickF g (if 0 < g f j then j else f) l = f ∨ pickF g (if 0 < g f j then j else f) l ∈ j :: l
    rcases pick_mem g l (if 0 < g f j then j else f) with h | h
    · rw [h]
      split
      · exact .inr (List.mem_cons_self ..)
      · exact .inl rfl
    · exact .inr (List.mem_cons_of_mem _ h)
theorem pick_in (g : Int → Int → Int) (a : Int) (l : List Int) : pickF g a (a :: l) ∈ a :: l := by
  rcases pick_mem g (a :: l) a with h | h
  · rw [h]; exact List.mem_cons_self ..
  · exact h
theorem by_ratio_at {k : Nat} (hk : 2 ≤ k) {ts ws : List Int} (J : Jobs ts ws) : CF T k 18 [dI ts, dI ws] = .ret (dI (byR (gn ts ws) ts.length (jobs ts.length))) [] := by
  obtain ⟨k, rfl⟩ : ∃ j, k = j + 1 := ⟨k - 1, by omega⟩
  have hn := J.l2
  have turn : ∀ (n : Nat) (left found : List Int) (o1 o2 : Option D), left.length ≤ n → found.length + left.length ≤ 12 → (∀ j ∈ left, 0 ≤ j ∧ j < ts.length) → ∃ o1' o2', whD (evb (CF T k) c_18_0) (exs (CF T k) w_18_3) [some (dI ts), some (dI ws), some (dI left), some (dI found), o1, o2] = .next [some (dI ts), some (dI ws), some (dI []), some (dI (found ++ byR (gn ts ws) n left)), o1', o2'] := by
    intro n
    induction n with
    | zero =>
      intro left found o1 o2 hl _ _
      have : left = [] := List.length_eq_zero_iff.mp (by omega)
      subst this
      refine ⟨o1, o2, ?_⟩
      rw [whD_eq]
      have : evb (CF T k) c_18_0 [some (dI ts), some (dI ws), some (dI []), some (dI found), o1, o2] = .ok false [some (dI ts), some (dI ws), some (dI []), some (dI found), o1, o2] := by
        have := eqD_nil_ints (xs := [])
        simp -implicitDefEqProofs [runF, exs, ex, evb, evi, evc, evo, ev, evs, getE, callD, argsAt, outsAt, outsOf, IEs.owns, binD, cmpD, biD, addD, subD, leD, ltD, isiD, truD, negD, isL, eq_int, itemsD, bindT, len_dI, sz0, sz1, sz2, sz3, sz4, sz5, sz6, kt1, kt2, kt3, kt4, kt5, kt6, kt7, kt8, kt9, kt10, kt11, kt12, kt13, kt14, kt15, c_18_0, this]
      rw [this]
      simp [byR]
    | succ n ih =>
      intro left found o1 o2 hl hf hr
      cases left with
      | nil =>
        refine ⟨o1, o2, ?_⟩
        rw [whD_eq]
        have : evb (CF T k) c_18_0 [some (dI ts), some (dI ws), some (dI []), some (dI found), o1, o2] = .ok false [some (dI ts), some (dI ws), some (dI []), some (dI found), o1, o2] := by
          have := eqD_nil_ints (xs := [])
          simp -implicitDefEqProofs [runF, exs, ex, evb, evi, evc, evo, ev, evs, getE, callD, argsAt, outsAt, outsOf, IEs.owns, binD, cmpD, biD, addD, subD, leD, ltD, isiD, truD, negD, isL, eq_int, itemsD, bindT, len_dI, sz0, sz1, sz2, sz3, sz4, sz5, sz6, kt1, kt2, kt3, kt4, kt5, kt6, kt7, kt8, kt9, kt10, kt11, kt12, kt13, kt14, kt15, c_18_0, this]
        rw [this]
        simp [byR]
      | cons a l =>
        have hc : evb (CF T k) c_18_0 [some (dI ts), some (dI ws), some (dI (a :: l)), some (dI found), o1, o2] = .ok true [some (dI ts), some (dI ws), some (dI (a :: l)), some (dI found), o1, o2] := by
          have : eqD (dI (a :: l)) (.lst []) = some false := by rw [eqD_nil_ints] <;> rfl
          simp -implicitDefEqProofs [runF, exs, ex, evb, evi, evc, evo, ev, evs, getE, callD, argsAt, outsAt, outsOf, IEs.owns, binD, cmpD, biD, addD, subD, leD, ltD, isiD, truD, negD, isL, eq_int, itemsD, bindT, len_dI, sz0, sz1, sz2, sz3, sz4, sz5, sz6, kt1, kt2, kt3, kt4, kt5, kt6, kt7, kt8, kt9, kt10, kt11, kt12, kt13, kt14, kt15, c_18_0, this]
        obtain ⟨o', e, q⟩ := forD_runG (t := .nm 5) (b := exs (CF T k) w_18_1) (mk := fun (s : Int) (o : Option D) => [some (dI ts), some (dI ws), some (dI (a :: l)), some (dI found), some (.int s), o]) (inj := D.int) (f := fun (f : Int) (j : Int) => if 0 < gn ts ws f j then j else f) (P := fun _ s => 0 ≤ s ∧ s < ts.length) (a :: l) 0 (fun i s x o hx hs => by
          obtain ⟨x0, x1⟩ := hr x hx
          have g1 := gain_of_at (k := k) (by omega) J hs.1 hs.2 x0 x1
          refine ⟨_, some (.int x), by simp [bindT]; rfl, ?_, ?_⟩
          · by_cases h : 0 < gn ts ws s x
            · simp -implicitDefEqProofs [runF, exs, ex, evb, evi, evc, evo, ev, evs, getE, callD, argsAt, outsAt, outsOf, IEs.owns, binD, cmpD, biD, addD, subD, leD, ltD, isiD, truD, negD, isL, eq_int, itemsD, bindT, len_dI, sz0, sz1, sz2, sz3, sz4, sz5, sz6, kt1, kt2, kt3, kt4, kt5, kt6, kt7, kt8, kt9, kt10, kt11, kt12, kt13, kt14, kt15, w_18_1, g1, h]
            · simp -implicitDefEqProofs [runF, exs, ex, evb, evi, evc, evo, ev, evs, getE, callD, argsAt, outsAt, outsOf, IEs.owns, binD, cmpD, biD, addD, subD, leD, ltD, isiD, truD, negD, isL, eq_int, itemsD, bindT, len_dI, sz0, sz1, sz2, sz3, sz4, sz5, sz6, kt1, kt2, kt3, kt4, kt5, kt6, kt7, kt8, kt9, kt10, kt11, kt12, kt13, kt14, kt15, w_18_1, g1, h]
          · by_cases h : 0 < gn ts ws s x
            · simp only [if_pos h]; exact ⟨x0, x1⟩
            · simp only [if_neg h]; exact hs) a o2 (hr a (List.mem_cons_self ..))
        generalize hfst : pickF (gn ts ws) a (a :: l) = fst at *
        have hfst' : (a :: l).foldl (fun (f : Int) (j : Int) => if 0 < gn ts ws f j then j else f) a = fst := hfst
        rw [hfst'] at e q
        have hin : fst ∈ a :: l := hfst ▸ pick_in (gn ts ws) a l
        have elc : ev (CF T k) l_18_2 [some (dI ts), some (dI ws), some (dI (a :: l)), some (dI (found ++ [fst])), some (.int fst), o'] = .ok (dI ((a :: l).filter fun j => !(j == fst))) [some (dI ts), some (dI ws), some (dI (a :: l)), some (dI (found ++ [fst])), some (.int fst), o'] := by
          exact ev_lc1 (C := CF T k) (i := 5) (it := .val (.var 2)) (c := .some (.cmp .NotEq (.var 5) (.var 4))) (e := .var 5) (env := [some (dI ts), some (dI ws), some (dI (a :: l)), some (dI (found ++ [fst])), some (.int fst), o']) (p := fun j => !(j == fst)) (g := .int) (inj := .int) (a :: l) (by simp) (by simp -implicitDefEqProofs [runF, exs, ex, evb, evi, evc, evo, ev, evs, getE, callD, argsAt, outsAt, outsOf, IEs.owns, binD, cmpD, biD, addD, subD, leD, ltD, isiD, truD, negD, isL, eq_int, itemsD, bindT, len_dI, sz0, sz1, sz2, sz3, sz4, sz5, sz6, kt1, kt2, kt3, kt4, kt5, kt6, kt7, kt8, kt9, kt10, kt11, kt12, kt13, kt14, kt15, ]) (sz12 (by simp only [List.length_cons] at hf ⊢; omega)) (fun x hx => by simp -implicitDefEqProofs [runF, exs, ex, evb, evi, evc, evo, ev, evs, getE, callD, argsAt, outsAt, outsOf, IEs.owns, binD, cmpD, biD, addD, subD, leD, ltD, isiD, truD, negD, isL, eq_int, itemsD, bindT, len_dI, sz0, sz1, sz2, sz3, sz4, sz5, sz6, kt1, kt2, kt3, kt4, kt5, kt6, kt7, kt8, kt9, kt10, kt11, kt12, kt13, kt14, kt15, ]) (fun x hx _ => by simp -implicitDefEqProofs [runF, exs, ex, evb, evi, evc, evo, ev, evs, getE, callD, argsAt, outsAt, outsOf, IEs.owns, binD, cmpD, biD, addD, subD, leD, ltD, isiD, truD, negD, isL, eq_int, itemsD, bindT, len_dI, sz0, sz1, sz2, sz3, sz4, sz5, sz6, kt1, kt2, kt3, kt4, kt5, kt6, kt7, kt8, kt9, kt10, kt11, kt12, kt13, kt14, kt15, ])
        have hbody : exs (CF T k) w_18_3 [some (dI ts), some (dI ws), some (dI (a :: l)), some (dI found), o1, o2] = .next [some (dI ts), some (dI ws), some (dI ((a :: l).filter fun j => !(j == fst))), some (dI (found ++ [fst])), some (.int fst), o'] := by
          unfold w_18_3
          refine (exs_next (ex_set (d := .int a) (env1 := [some (dI ts), some (dI ws), some (dI (a :: l)), some (dI found), o1, o2]) (by
            have : idxD (dI (a :: l)) (.int 0) = some (.int a) := by simpa using idx_dI (a :: l) 0
            simp -implicitDefEqProofs [runF, exs, ex, evb, evi, evc, evo, ev, evs, getE, callD, argsAt, outsAt, outsOf, IEs.owns, binD, cmpD, biD, addD, subD, leD, ltD, isiD, truD, negD, isL, eq_int, itemsD, bindT, len_dI, sz0, sz1, sz2, sz3, sz4, sz5, sz6, kt1, kt2, kt3, kt4, kt5, kt6, kt7, kt8, kt9, kt10, kt11, kt12, kt13, kt14, kt15, this]) (fun h => by cases h) (by simp))).trans ?_
          refine (exs_next ((ex_for (ds := (a :: l).map D.int) (env1 := [some (dI ts), some (dI ws), some (dI (a :: l)), some (dI found), some (.int a), o2]) (by simp -implicitDefEqProofs [runF, exs, ex, evb, evi, evc, evo, ev, evs, getE, callD, argsAt, outsAt, outsOf, IEs.owns, binD, cmpD, biD, addD, subD, leD, ltD, isiD, truD, negD, isL, eq_int, itemsD, bindT, len_dI, sz0, sz1, sz2, sz3, sz4, sz5, sz6, kt1, kt2, kt3, kt4, kt5, kt6, kt7, kt8, kt9, kt10, kt11, kt12, kt13, kt14, kt15, ])).trans e)).trans ?_
          refine (exs_next (ex_app (d0 := dI found) (d := .int fst) (xs := found.map D.int) (env1 := [some (dI ts), some (dI ws), some (dI (a :: l)), some (dI found), some (.int fst), o']) rfl (by simp -implicitDefEqProofs [runF, exs, ex, evb, evi, evc, evo, ev, evs, getE, callD, argsAt, outsAt, outsOf, IEs.owns, binD, cmpD, biD, addD, subD, leD, ltD, isiD, truD, negD, isL, eq_int, itemsD, bindT, len_dI, sz0, sz1, sz2, sz3, sz4, sz5, sz6, kt1, kt2, kt3, kt4, kt5, kt6, kt7, kt8, kt9, kt10, kt11, kt12, kt13, kt14, kt15, ]) rfl (by rw [List.length_map]; exact Nat.lt_of_lt_of_le (by simp only [List.length_cons] at hf; omega : found.length < 1000) (sz12 (Nat.le_refl _))))).trans ?_
          have e9 : found.map D.int ++ [D.int fst] = (found ++ [fst]).map D.int := by simp
          rw [e9]
          exact (exs_next (ex_set elc (fun h => by cases h) (by simp))).trans exs_nil
        have hlen : ((a :: l).filter fun j => !(j == fst)).length < (a :: l).length := by
          refine List.length_filter_lt_length_iff_exists.mpr ⟨fst, hin, by simp⟩
        obtain ⟨p1, p2, hih⟩ := ih ((a :: l).filter fun j => !(j == fst)) (found ++ [fst]) (some (.int fst)) o' (by omega) (by simp only [List.length_append, List.length_cons, List.length_nil] at hf hlen ⊢; omega) (fun j hj => hr j (List.mem_filter.mp hj).1)
        refine ⟨p1, p2, ?_⟩
        rw [whD_eq, hc]
        simp only
        rw [hbody]
        simp only
        rw [hih, byR, hfst, List.append_assoc]
        rfl
  obtain ⟨o1, o2, e⟩ := turn ts.length (jobs ts.length) [] none none (by simp [jobs]) (by simp [jobs]; omega) (fun j hj => by
    obtain ⟨i, hi, rfl⟩ := List.mem_map.mp hj
    have : i < ts.length := by simpa using hi
    omega)
  rw [cf_18]
  refine runF_ret (env := [some (dI ts), some (dI ws), some (dI []), some (dI (byR (gn ts ws) ts.length (jobs ts.length))), o1, o2]) ?_ rfl rfl rfl
  show exs (CF T k) f_18.body [some (dI ts), some (dI ws), none, none, none, none] = _
  have er : ev (CF T k) (.lrg (.bi .len (.cons (.var 0) .nil))) [some (dI ts), some (dI ws), none, none, none, none] = .ok (dI (jobs ts.length)) [some (dI ts), some (dI ws), none, none, none, none] := by
    have r : rngOk (ts.length : Int) = true := rngOk_len (sz12 (by omega))
    have r2 : (ts.length : Int) ≤ 16777216 := by omega
    have r3 : D.lst (rangeD 0 ts.length) = dI (jobs ts.length) := by
      rw [range_dI, jobs, dI_map (fun (i : Nat) => (i : Int))]
      simp
    simp -implicitDefEqProofs [runF, exs, ex, evb, evi, evc, evo, ev, evs, getE, callD, argsAt, outsAt, outsOf, IEs.owns, binD, cmpD, biD, addD, subD, leD, ltD, isiD, truD, negD, isL, eq_int, itemsD, bindT, len_dI, sz0, sz1, sz2, sz3, sz4, sz5, sz6, kt1, kt2, kt3, kt4, kt5, kt6, kt7, kt8, kt9, kt10, kt11, kt12, kt13, kt14, kt15, r, r2, r3]
  refine (exs_next (ex_set er (fun h => by cases h) (by simp))).trans ?_
  refine (exs_next (ex_set (d := dI []) (env1 := [some (dI ts), some (dI ws), some (dI (jobs ts.length)), none, none, none]) (by simp -implicitDefEqProofs [runF, exs, ex, evb, evi, evc, evo, ev, evs, getE, callD, argsAt, outsAt, outsOf, IEs.owns, binD, cmpD, biD, addD, subD, leD, ltD, isiD, truD, negD, isL, eq_int, itemsD, bindT, len_dI, sz0, sz1, sz2, sz3, sz4, sz5, sz6, kt1, kt2, kt3, kt4, kt5, kt6, kt7, kt8, kt9, kt10, kt11, kt12, kt13, kt14, kt15, ]) (fun h => rfl) (by simp))).trans ?_
  refine (exs_next (ex_whl.trans e)).trans ?_
  refine (exs_next ex_frz).trans ?_
  exact exs_ret (ex_ret (by simp -implicitDefEqProofs [runF, exs, ex, evb, evi, evc, evo, ev, evs, getE, callD, argsAt, outsAt, outsOf, IEs.owns, binD, cmpD, biD, addD, subD, leD, ltD, isiD, truD, negD, isL, eq_int, itemsD, bindT, len_dI, sz0, sz1, sz2, sz3, sz4, sz5, sz6, kt1, kt2, kt3, kt4, kt5, kt6, kt7, kt8, kt9, kt10, kt11, kt12, kt13, kt14, kt15, ]))
theorem best_waiting_row_at {k : Nat} (hk : 7 ≤ k) {ts ws : List Int} (J : Jobs ts ws) : CF T k 19 [dI ts, dI ws] = .ret (dI (byR (gn ts ws) ts.length (jobs ts.length))) [] := by
  obtain ⟨k, rfl⟩ : ∃ j, k = j + 1 := ⟨k - 1, by omega⟩
  have h1 := check_jobs_at (k := k) (by omega) J
  have h3 := by_ratio_at (k := k) (by omega) J
  rw [cf_19]
  simp -implicitDefEqProofs [runF, exs, ex, evb, evi, evc, evo, ev, evs, getE, callD, argsAt, outsAt, outsOf, IEs.owns, binD, cmpD, biD, addD, subD, leD, ltD, isiD, truD, negD, isL, eq_int, itemsD, bindT, len_dI, sz0, sz1, sz2, sz3, sz4, sz5, sz6, kt1, kt2, kt3, kt4, kt5, kt6, kt7, kt8, kt9, kt10, kt11, kt12, kt13, kt14, kt15, f_19, h1, h3]
/-- no neighbours gain -/
def bestF (g : Int → Int → Int) (r : List Int) : Bool := ((List.range (r.length - 1)).filter fun (i : Nat) => decide (0 < g (at_ r i) (at_ r (i + 1 : Nat)))).isEmpty
theorem IsRow.at_ {n : Nat} {r : List Int} (h : IsRow n r) {i : Nat} (hi : i < r.length) : 0 ≤ at_ r i ∧ at_ r i < n := h.rg _ (at_mem hi)
theorem is_best_of_at {k : Nat} (hk : 2 ≤ k) {ts ws r : List Int} (J : Jobs ts ws) (h : IsRow ts.length r) : CF T k 20 [dI ts, dI ws, dI r] = .ret (.bl (bestF (gn ts ws) r)) [] := by
  obtain ⟨k, rfl⟩ : ∃ j, k = j + 1 := ⟨k - 1, by omega⟩
  have hn := J.l2
  have hl := h.len
  have e : ev (CF T k) l_20_0 [some (dI ts), some (dI ws), some (dI r), none] = .ok (dI (((List.range (r.length - 1)).filter fun (i : Nat) => decide (0 < gn ts ws (at_ r i) (at_ r (i + 1 : Nat)))).map fun (i : Nat) => 1 + (i : Int))) [some (dI ts), some (dI ws), some (dI r), none] := by
    have := ev_lc1 (α := Nat) (C := CF T k) (i := 3) (it := .rng2 (.int 1) (.bi .len (.cons (.var 2) .nil))) (c := .some (.cmp .Gt (.call 14 (.cons (.var 0) (.cons (.var 1) (.cons (.idx (.var 2) (.bin .Sub (.var 3) (.int 1))) (.cons (.idx (.var 2) (.var 3)) .nil))))) (.int 0))) (e := .var 3) (env := [some (dI ts), some (dI ws), some (dI r), none]) (p := fun (i : Nat) => decide (0 < gn ts ws (at_ r i) (at_ r (i + 1 : Nat)))) (g := fun (i : Nat) => .int (1 + (i : Int))) (inj := fun (i : Nat) => .int (1 + (i : Int))) (List.range (r.length - 1)) (by simp) (by
      have r1 : rngOk 1 = true := by decide
      have r2 : rngOk (r.length : Int) = true := rngOk_len (sz12 (by omega))
      have r3 : ((r.length : Int) - 1).toNat = r.length - 1 := by omega
      simp -implicitDefEqProofs [runF, exs, ex, evb, evi, evc, evo, ev, evs, getE, callD, argsAt, outsAt, outsOf, IEs.owns, binD, cmpD, biD, addD, subD, leD, ltD, isiD, truD, negD, isL, eq_int, itemsD, bindT, len_dI, sz0, sz1, sz2, sz3, sz4, sz5, sz6, kt1, kt2, kt3, kt4, kt5, kt6, kt7, kt8, kt9, kt10, kt11, kt12, kt13, kt14, kt15, r1, r2, r3, range_dI]) (sz12 (by simp; omega)) (fun x hx => by
      have hx : x < r.length - 1 := by simpa using hx
      have a1 := idx_at (xs := r) (i := (x : Int)) (by omega) (by omega)
      have a2 := idx_at (xs := r) (i := 1 + (x : Int)) (by omega) (by omega)
      have e3 : 1 + (x : Int) - 1 = x := by omega
      have e4 : (1 + (x : Int)) = ((x + 1 : Nat) : Int) := by omega
      have b1 := h.at_ (i := x) (by omega)
      have b2 := h.at_ (i := x + 1) (by omega)
      have g1 := gain_of_at (k := k) (by omega) J b1.1 b1.2 b2.1 b2.2
      rw [← e4] at g1
      simp -implicitDefEqProofs [runF, exs, ex, evb, evi, evc, evo, ev, evs, getE, callD, argsAt, outsAt, outsOf, IEs.owns, binD, cmpD, biD, addD, subD, leD, ltD, isiD, truD, negD, isL, eq_int, itemsD, bindT, len_dI, sz0, sz1, sz2, sz3, sz4, sz5, sz6, kt1, kt2, kt3, kt4, kt5, kt6, kt7, kt8, kt9, kt10, kt11, kt12, kt13, kt14, kt15, e3, a1, a2, g1]
      rw [e4]
      rfl) (fun x hx _ => by simp -implicitDefEqProofs [runF, exs, ex, evb, evi, evc, evo, ev, evs, getE, callD, argsAt, outsAt, outsOf, IEs.owns, binD, cmpD, biD, addD, subD, leD, ltD, isiD, truD, negD, isL, eq_int, itemsD, bindT, len_dI, sz0, sz1, sz2, sz3, sz4, sz5, sz6, kt1, kt2, kt3, kt4, kt5, kt6, kt7, kt8, kt9, kt10, kt11, kt12, kt13, kt14, kt15, ])
    rw [dI_map (fun (i : Nat) => 1 + (i : Int))]
    exact this
  rw [cf_20]
  refine runF_ret (env := [some (dI ts), some (dI ws), some (dI r), none]) ?_ rfl rfl rfl
  show exs (CF T k) f_20.body [some (dI ts), some (dI ws), some (dI r), none] = _
  refine exs_ret (ex_ret ?_)
  have q := eqD_nil_ints (xs := ((List.range (r.length - 1)).filter fun (i : Nat) => decide (0 < gn ts ws (at_ r i) (at_ r (i + 1 : Nat)))).map fun (i : Nat) => 1 + (i : Int))
  rw [List.isEmpty_map] at q
  rw [ev, e]
  simp only [Res.bind_ok]
  rw [ev, evs]
  simp only [Res.bind_ok]
  rw [if_pos (by show 0 ≤ sizeLine; exact Nat.zero_le _)]
  simp only [Res.bind_ok, cmpD]
  rw [q]
  rfl
theorem is_best_waiting_row_at {k : Nat} (hk : 7 ≤ k) {ts ws r : List Int} (J : Jobs ts ws) (h : IsRow ts.length r) : CF T k 21 [dI ts, dI ws, dI r] = .ret (.bl (bestF (gn ts ws) r)) [] := by
  obtain ⟨k, rfl⟩ : ∃ j, k = j + 1 := ⟨k - 1, by omega⟩
  have h1 := check_jobs_at (k := k) (by omega) J
  have h2 := is_row_of_at (k := k) (by omega) h (by have := J.l2; omega)
  have h3 := is_best_of_at (k := k) (by omega) J h
  rw [cf_21]
  simp -implicitDefEqProofs [runF, exs, ex, evb, evi, evc, evo, ev, evs, getE, callD, argsAt, outsAt, outsOf, IEs.owns, binD, cmpD, biD, addD, subD, leD, ltD, isiD, truD, negD, isL, eq_int, itemsD, bindT, len_dI, sz0, sz1, sz2, sz3, sz4, sz5, sz6, kt1, kt2, kt3, kt4, kt5, kt6, kt7, kt8, kt9, kt10, kt11, kt12, kt13, kt14, kt15, f_21, h1, h2, h3]
theorem gain_at {k : Nat} (hk : 7 ≤ k) {ts ws r : List Int} {p : Nat} (J : Jobs ts ws) (h : IsRow ts.length r) (hp : p + 1 < ts.length) : CF T k 22 [dI ts, dI ws, dI r, .int p] = .ret (.int (gn ts ws (at_ r p) (at_ r (p + 1 : Nat)))) [] := by
  obtain ⟨k, rfl⟩ : ∃ j, k = j + 1 := ⟨k - 1, by omega⟩
  have hl := h.len
  have h1 := check_jobs_at (k := k) (by omega) J
  have h2 := check_any_row_at (k := k) (by omega) h (by have := J.l2; omega)
  have h3 := is_below_at (k := k) (by omega) p ((r.length : Int) - 1)
  have q1 : (p : Int) < (r.length : Int) - 1 := by omega
  have a1 := idx_at (xs := r) (i := (p : Int)) (by omega) (by omega)
  have a2 := idx_at (xs := r) (i := (p : Int) + 1) (by omega) (by omega)
  have b1 := h.at_ (i := p) (by omega)
  have b2 := h.at_ (i := p + 1) (by omega)
  have g1 := gain_of_at (k := k) (by omega) J b1.1 b1.2 b2.1 b2.2
  rw [show ((p + 1 : Nat) : Int) = (p : Int) + 1 from by omega] at g1 ⊢
  rw [cf_22]
  simp -implicitDefEqProofs [runF, exs, ex, evb, evi, evc, evo, ev, evs, getE, callD, argsAt, outsAt, outsOf, IEs.owns, binD, cmpD, biD, addD, subD, leD, ltD, isiD, truD, negD, isL, eq_int, itemsD, bindT, len_dI, sz0, sz1, sz2, sz3, sz4, sz5, sz6, kt1, kt2, kt3, kt4, kt5, kt6, kt7, kt8, kt9, kt10, kt11, kt12, kt13, kt14, kt15, f_22, h1, h2, h3, q1, a1, a2, g1]
/-- the first place where an exchange gains -/
def firstG (g : Int → Int → Int) (r : List Int) : Option Nat := (List.range (r.length - 1)).find? fun (i : Nat) => decide (0 < g (at_ r i) (at_ r (i + 1 : Nat)))
def onD : Option Nat → D
  | some p => .int p
  | none => .non
theorem first_gain_at {k : Nat} (hk : 2 ≤ k) {ts ws r : List Int} (J : Jobs ts ws) (h : IsRow ts.length r) : CF T k 23 [dI ts, dI ws, dI r] = .ret (onD (firstG (gn ts ws) r)) [] := by
  obtain ⟨k, rfl⟩ : ∃ j, k = j + 1 := ⟨k - 1, by omega⟩
  have hn := J.l2
  have hl := h.len
  obtain ⟨o', e⟩ := forD_find (t := .nm 3) (b := exs (CF T k) w_23_0) (mk := fun o => [some (dI ts), some (dI ws), some (dI r), o]) (inj := fun (i : Nat) => D.int (0 + (i : Int))) (p := fun (i : Nat) => decide (0 < gn ts ws (at_ r i) (at_ r (i + 1 : Nat)))) (dd := fun (i : Nat) => D.int i) (List.range (r.length - 1)) (fun x o hx => by
    have hx : x < r.length - 1 := by simpa using hx
    have a1 := idx_at (xs := r) (i := (x : Int)) (by omega) (by omega)
    have a2 := idx_at (xs := r) (i := (x : Int) + 1) (by omega) (by omega)
    have b1 := h.at_ (i := x) (by omega)
    have b2 := h.at_ (i := x + 1) (by omega)
    have g1 := gain_of_at (k := k) (by omega) J b1.1 b1.2 b2.1 b2.2
    rw [show ((x + 1 : Nat) : Int) = (x : Int) + 1 from by omega] at g1 ⊢
    refine ⟨by simp [bindT], ?_⟩
    by_cases q : 0 < gn ts ws (at_ r x) (at_ r ((x : Int) + 1))
    · simp -implicitDefEqProofs [runF, exs, ex, evb, evi, evc, evo, ev, evs, getE, callD, argsAt, outsAt, outsOf, IEs.owns, binD, cmpD, biD, addD, subD, leD, ltD, isiD, truD, negD, isL, eq_int, itemsD, bindT, len_dI, sz0, sz1, sz2, sz3, sz4, sz5, sz6, kt1, kt2, kt3, kt4, kt5, kt6, kt7, kt8, kt9, kt10, kt11, kt12, kt13, kt14, kt15, w_23_0, a1, a2, g1, q]
    · simp -implicitDefEqProofs [runF, exs, ex, evb, evi, evc, evo, ev, evs, getE, callD, argsAt, outsAt, outsOf, IEs.owns, binD, cmpD, biD, addD, subD, leD, ltD, isiD, truD, negD, isL, eq_int, itemsD, bindT, len_dI, sz0, sz1, sz2, sz3, sz4, sz5, sz6, kt1, kt2, kt3, kt4, kt5, kt6, kt7, kt8, kt9, kt10, kt11, kt12, kt13, kt14, kt15, w_23_0, a1, a2, g1, q]) none
  rw [cf_23]
  have r1 : rngOk ((r.length : Int) - 1) = true := by
    have : (r.length : Int) - 1 = ((r.length - 1 : Nat) : Int) := by have := J.l1; omega
    rw [this]
    exact rngOk_len (sz12 (by omega))
  have r2 : ((r.length : Int) - 1).toNat = r.length - 1 := by omega
  have hfor : ex (CF T k) (.for_ (.nm 3) (.rng (.bin .Sub (.bi .len (.cons (.var 2) .nil)) (.int 1))) w_23_0) [some (dI ts), some (dI ws), some (dI r), none] = _ := (ex_for (ds := (List.range (r.length - 1)).map fun (i : Nat) => D.int (0 + (i : Int))) (env1 := [some (dI ts), some (dI ws), some (dI r), none]) (by simp -implicitDefEqProofs [runF, exs, ex, evb, evi, evc, evo, ev, evs, getE, callD, argsAt, outsAt, outsOf, IEs.owns, binD, cmpD, biD, addD, subD, leD, ltD, isiD, truD, negD, isL, eq_int, itemsD, bindT, len_dI, sz0, sz1, sz2, sz3, sz4, sz5, sz6, kt1, kt2, kt3, kt4, kt5, kt6, kt7, kt8, kt9, kt10, kt11, kt12, kt13, kt14, kt15, r1, r2, range_dI])).trans e
  cases hf : firstG (gn ts ws) r with
  | some p =>
    have hf' : (List.range (r.length - 1)).find? (fun (i : Nat) => decide (0 < gn ts ws (at_ r i) (at_ r (i + 1 : Nat)))) = some p := hf
    rw [hf'] at hfor
    exact runF_ret (exs_ret hfor) rfl rfl rfl
  | none =>
    have hf' : (List.range (r.length - 1)).find? (fun (i : Nat) => decide (0 < gn ts ws (at_ r i) (at_ r (i + 1 : Nat)))) = none := hf
    rw [hf'] at hfor
    exact runF_ret ((exs_next hfor).trans (exs_ret (ex_ret (d := .non) (env1 := [some (dI ts), some (dI ws), some (dI r), o']) (by simp -implicitDefEqProofs [runF, exs, ex, evb, evi, evc, evo, ev, evs, getE, callD, argsAt, outsAt, outsOf, IEs.owns, binD, cmpD, biD, addD, subD, leD, ltD, isiD, truD, negD, isL, eq_int, itemsD, bindT, len_dI, sz0, sz1, sz2, sz3, sz4, sz5, sz6, kt1, kt2, kt3, kt4, kt5, kt6, kt7, kt8, kt9, kt10, kt11, kt12, kt13, kt14, kt15, ])))) rfl rfl rfl
/-- two neighbours exchanged -/
def swapF (r : List Int) (p : Nat) : List Int := r.take p ++ [at_ r (p + 1 : Nat), at_ r p] ++ r.drop (p + 2)
theorem exchanged_at {k : Nat} (hk : 1 ≤ k) {r : List Int} {p : Nat} (hp : p + 1 < r.length) (hl : r.length ≤ 12) : CF T k 24 [dI r, .int p] = .ret (dI (swapF r p)) [] := by
  obtain ⟨k, rfl⟩ : ∃ j, k = j + 1 := ⟨k - 1, by omega⟩
  have a1 := idx_at (xs := r) (i := (p : Int)) (by omega) (by omega)
  have a2 := idx_at (xs := r) (i := (p : Int) + 1) (by omega) (by omega)
  have c1 : slD (dI r) none (some (p : Int)) = some (dI (r.take p)) := by
    show some (D.lst (cutL (r.map D.int) none (some (p : Int)))) = _
    rw [cutL_take _ (by rw [List.length_map]; omega), ← List.map_take]
  have c2 : slD (dI r) (some ((p : Int) + 2)) none = some (dI (r.drop (p + 2))) := by
    show some (D.lst (cutL (r.map D.int) (some ((p : Int) + 2)) none)) = _
    rw [show (p : Int) + 2 = ((p + 2 : Nat) : Int) from by omega, cutL_drop _ (by rw [List.length_map]; omega), ← List.map_drop]
  have c3 : addD (dI (r.take p)) (.lst [.int (at_ r ((p : Int) + 1)), .int (at_ r p)]) = some (dI (r.take p ++ [at_ r ((p : Int) + 1), at_ r p])) := by
    show (if (List.map D.int (r.take p)).length + 2 ≤ sizeLine then some (D.lst (List.map D.int (r.take p) ++ [.int (at_ r ((p : Int) + 1)), .int (at_ r p)])) else none) = _
    rw [if_pos (sz12 (by rw [List.length_map, List.length_take]; omega))]
    simp
  have c4 : addD (dI (r.take p ++ [at_ r ((p : Int) + 1), at_ r p])) (dI (r.drop (p + 2))) = some (dI (swapF r p)) := by
    show (if (List.map D.int (r.take p ++ [at_ r ((p : Int) + 1), at_ r p])).length + (List.map D.int (r.drop (p + 2))).length ≤ sizeLine then some (D.lst (List.map D.int (r.take p ++ [at_ r ((p : Int) + 1), at_ r p]) ++ List.map D.int (r.drop (p + 2)))) else none) = _
    rw [if_pos (sz12 (by simp only [List.length_map, List.length_append, List.length_take, List.length_drop, List.length_cons, List.length_nil]; omega)), ← List.map_append]
    rfl
  rw [cf_24]
  refine runF_ret (env := [some (dI r), some (.int p)]) ?_ rfl rfl rfl
  show exs (CF T k) f_24.body [some (dI r), some (.int p)] = _
  refine exs_ret (ex_ret ?_)
  refine ev_bin (env1 := [some (dI r), some (.int p)]) (x := dI (r.take p ++ [at_ r ((p : Int) + 1), at_ r p])) (y := dI (r.drop (p + 2))) (ev_bin (env1 := [some (dI r), some (.int p)]) (x := dI (r.take p)) (y := .lst [.int (at_ r ((p : Int) + 1)), .int (at_ r p)]) ?_ ?_ c3) ?_ c4
  · simp -implicitDefEqProofs [runF, exs, ex, evb, evi, evc, evo, ev, evs, getE, callD, argsAt, outsAt, outsOf, IEs.owns, binD, cmpD, biD, addD, subD, leD, ltD, isiD, truD, negD, isL, eq_int, itemsD, bindT, len_dI, sz0, sz1, sz2, sz3, sz4, sz5, sz6, kt1, kt2, kt3, kt4, kt5, kt6, kt7, kt8, kt9, kt10, kt11, kt12, kt13, kt14, kt15, c1]
  · simp -implicitDefEqProofs [runF, exs, ex, evb, evi, evc, evo, ev, evs, getE, callD, argsAt, outsAt, outsOf, IEs.owns, binD, cmpD, biD, addD, subD, leD, ltD, isiD, truD, negD, isL, eq_int, itemsD, bindT, len_dI, sz0, sz1, sz2, sz3, sz4, sz5, sz6, kt1, kt2, kt3, kt4, kt5, kt6, kt7, kt8, kt9, kt10, kt11, kt12, kt13, kt14, kt15, a1, a2]
  · simp -implicitDefEqProofs [runF, exs, ex, evb, evi, evc, evo, ev, evs, getE, callD, argsAt, outsAt, outsOf, IEs.owns, binD, cmpD, biD, addD, subD, leD, ltD, isiD, truD, negD, isL, eq_int, itemsD, bindT, len_dI, sz0, sz1, sz2, sz3, sz4, sz5, sz6, kt1, kt2, kt3, kt4, kt5, kt6, kt7, kt8, kt9, kt10, kt11, kt12, kt13, kt14, kt15, c2]
end LT
namespace LT
open PySem VI
/-! P1: rows, plainly: exchanges and costs -/
theorem at_nat (xs : List Int) (i : Nat) : at_ xs (i : Int) = xs.getD i 0 := by unfold at_; rw [Int.toNat_natCast]
/-- how many pairs stand wrongly -/
def inv (g : Int → Int → Int) : List Int → Nat
  | [] => 0
  | a :: r => r.countP (fun b => decide (0 < g a b)) + inv g r
theorem inv_append (g : Int → Int → Int) (l1 l2 : List Int) : inv g (l1 ++ l2) = inv g l1 + inv g l2 + (l1.map fun a => l2.countP fun b => decide (0 < g a b)).sum := by
  induction l1 with
  | nil => simp [inv]
  | cons a l1 ih =>
    simp only [List.cons_append, inv, ih, List.countP_append, List.map_cons, List.sum_cons]
    omega
theorem inv_swap (g : Int → Int → Int) (l1 l2 : List Int) (a b : Int) (h1 : 0 < g a b) (h2 : ¬ 0 < g b a) : inv g (l1 ++ a :: b :: l2) = inv g (l1 ++ b :: a :: l2) + 1 := by
  have e : (l1.map fun x => (a :: b :: l2).countP fun y => decide (0 < g x y)).sum = (l1.map fun x => (b :: a :: l2).countP fun y => decide (0 < g x y)).sum := by
    congr 1
    refine List.map_congr_left fun x _ => ?_
    simp only [List.countP_cons]
    omega
  rw [inv_append, inv_append, e]
  simp only [inv, List.countP_cons, h1, h2, decide_true, decide_false, if_true, Bool.false_eq_true, if_false]
  omega
theorem swapF_eq {r : List Int} {p : Nat} (hp : p + 1 < r.length) : r = r.take p ++ at_ r p :: at_ r (p + 1 : Nat) :: r.drop (p + 2) ∧ swapF r p = r.take p ++ at_ r (p + 1 : Nat) :: at_ r p :: r.drop (p + 2) := by
  constructor
  · have h1 : r.drop p = at_ r p :: r.drop (p + 1) := by
      rw [List.drop_eq_getElem_cons (by omega)]
      unfold at_
      simp [show p < r.length from by omega]
    have h2 : r.drop (p + 1) = at_ r (p + 1 : Nat) :: r.drop (p + 2) := by
      rw [List.drop_eq_getElem_cons (by omega)]
      unfold at_
      simp [hp]
    rw [← h2, ← h1, List.take_append_drop]
  · unfold swapF
    simp
theorem swapF_perm {r : List Int} {p : Nat} (hp : p + 1 < r.length) : (swapF r p).Perm r := by
  obtain ⟨h1, h2⟩ := swapF_eq hp
  rw [h2]
  conv => rhs; rw [h1]
  exact List.Perm.append_left _ (List.Perm.swap _ _ _)
theorem IsRow.perm {n : Nat} {r s : List Int} (h : IsRow n r) (p : s.Perm r) : IsRow n s := ⟨p.length_eq.trans h.len, p.nodup_iff.mpr h.nd, fun i hi => h.rg i (p.mem_iff.mp hi)⟩
theorem first_some {g : Int → Int → Int} {r : List Int} {p : Nat} (h : firstG g r = some p) : p + 1 < r.length ∧ 0 < g (at_ r p) (at_ r (p + 1 : Nat)) := by
  have h1 := List.mem_of_find?_eq_some h
  have h2 := List.find?_some h
  have h1 : p < r.length - 1 := by simpa using h1
  exact ⟨by omega, of_decide_eq_true h2⟩
theorem first_none {g : Int → Int → Int} {r : List Int} (h : firstG g r = none) : bestF g r = true := by
  unfold firstG at h
  unfold bestF
  rw [List.isEmpty_iff]
  exact List.filter_eq_nil_iff.mpr (List.find?_eq_none.mp h)
/-- the exchanges, one behind another -/
def exchF (g : Int → Int → Int) : Nat → List Int → List Nat
  | 0, _ => []
  | n + 1, r => match firstG g r with
    | none => []
    | some p => p :: exchF g n (swapF r p)
/-- the row behind them -/
def lastF (g : Int → Int → Int) : Nat → List Int → List Int
  | 0, r => r
  | n + 1, r => match firstG g r with
    | none => r
    | some p => lastF g n (swapF r p)
/-- no two gain both ways -/
def Anti (g : Int → Int → Int) : Prop := ∀ a b, 0 < g a b → ¬ 0 < g b a
theorem gn_anti (ts ws : List Int) : Anti (gn ts ws) := fun a b h => by
  unfold gn at h ⊢
  omega
theorem inv_step {g : Int → Int → Int} (ha : Anti g) {r : List Int} {p : Nat} (h : firstG g r = some p) : inv g r = inv g (swapF r p) + 1 := by
  obtain ⟨hp, h1⟩ := first_some h
  obtain ⟨e1, e2⟩ := swapF_eq hp
  rw [e2]
  conv => lhs; rw [e1]
  exact inv_swap g _ _ _ _ h1 (ha _ _ h1)
/-- what no exchange gains on, goes on -/
def Tr (g : Int → Int → Int) (n : Nat) : Prop := ∀ a b c : Int, 0 ≤ a → a < n → 0 ≤ b → b < n → 0 ≤ c → c < n → ¬ 0 < g a b → ¬ 0 < g b c → ¬ 0 < g a c
theorem gn_tr {ts ws : List Int} (J : Jobs ts ws) : Tr (gn ts ws) ts.length := fun a b c a0 a1 b0 b1 c0 c1 h1 h2 => by
  unfold gn at h1 h2 ⊢
  obtain ⟨ta, _⟩ := J.ti a0 a1
  obtain ⟨tb, _⟩ := J.ti b0 b1
  obtain ⟨tc, _⟩ := J.ti c0 c1
  intro h3
  have e1 : at_ ws b * at_ ts a * at_ ts c ≤ at_ ws a * at_ ts b * at_ ts c := Int.mul_le_mul_of_nonneg_right (by omega) (by omega)
  have e2 : at_ ws c * at_ ts b * at_ ts a ≤ at_ ws b * at_ ts c * at_ ts a := Int.mul_le_mul_of_nonneg_right (by omega) (by omega)
  have e3 : at_ ws a * at_ ts c * at_ ts b < at_ ws c * at_ ts a * at_ ts b := Int.mul_lt_mul_of_pos_right (by omega) (by omega)
  have q1 : at_ ws b * at_ ts c * at_ ts a = at_ ws b * at_ ts a * at_ ts c := by ac_rfl
  have q2 : at_ ws a * at_ ts c * at_ ts b = at_ ws a * at_ ts b * at_ ts c := by ac_rfl
  have q3 : at_ ws c * at_ ts a * at_ ts b = at_ ws c * at_ ts b * at_ ts a := by ac_rfl
  omega
/-- no pair stands wrongly -/
def Srt (g : Int → Int → Int) (r : List Int) : Prop := r.Pairwise fun a b => ¬ 0 < g a b
theorem srt_inv {g : Int → Int → Int} : ∀ {r : List Int}, Srt g r ↔ inv g r = 0
  | [] => by simp [Srt, inv]
  | a :: r => by
    unfold Srt inv
    rw [List.pairwise_cons]
    have := srt_inv (g := g) (r := r)
    unfold Srt at this
    rw [this, Nat.add_eq_zero_iff, List.countP_eq_zero]
    simp
theorem best_srt {g : Int → Int → Int} {n : Nat} (ht : Tr g n) : ∀ {r : List Int}, (∀ i ∈ r, 0 ≤ i ∧ i < n) → (∀ i : Nat, i + 1 < r.length → ¬ 0 < g (at_ r i) (at_ r (i + 1 : Nat))) → Srt g r
  | [], _, _ => List.Pairwise.nil
  | [a], _, _ => List.pairwise_singleton _ _
  | a :: b :: r, hr, h => by
    have ih := best_srt (r := b :: r) ht (fun i hi => hr i (List.mem_cons_of_mem _ hi)) fun i hi => by
      have := h (i + 1) (by simpa using hi)
      rw [at_nat, at_nat] at this ⊢
      simpa using this
    have h0 : ¬ 0 < g a b := by
      have := h 0 (by simp)
      unfold at_ at this
      simpa using this
    refine List.pairwise_cons.mpr ⟨fun c hc => ?_, ih⟩
    rcases List.mem_cons.mp hc with rfl | hc
    · exact h0
    · have ra := hr a (List.mem_cons_self ..)
      have rb := hr b (List.mem_cons_of_mem _ (List.mem_cons_self ..))
      have rc := hr c (List.mem_cons_of_mem _ (List.mem_cons_of_mem _ hc))
      exact ht a b c ra.1 ra.2 rb.1 rb.2 rc.1 rc.2 h0 ((List.pairwise_cons.mp ih).1 c hc)
theorem bestF_iff {g : Int → Int → Int} {r : List Int} : bestF g r = true ↔ ∀ i : Nat, i + 1 < r.length → ¬ 0 < g (at_ r i) (at_ r (i + 1 : Nat)) := by
  unfold bestF
  rw [List.isEmpty_iff, List.filter_eq_nil_iff]
  constructor
  · intro h i hi
    have := h i (by simp; omega)
    simpa using this
  · intro h i hi
    have hi : i < r.length - 1 := by simpa using hi
    simpa using h i (by omega)
theorem srt_best {g : Int → Int → Int} {r : List Int} (h : Srt g r) : bestF g r = true := bestF_iff.mpr fun i hi => by
  have := List.pairwise_iff_getElem.mp h i (i + 1) (by omega) hi (by omega)
  unfold at_
  simpa [show i < r.length from by omega, hi] using this
theorem best_iff {g : Int → Int → Int} {n : Nat} (ht : Tr g n) {r : List Int} (hr : ∀ i ∈ r, 0 ≤ i ∧ i < n) : bestF g r = true ↔ Srt g r := ⟨fun h => best_srt ht hr (bestF_iff.mp h), srt_best⟩
theorem inv_le (g : Int → Int → Int) : ∀ r : List Int, inv g r ≤ r.length * r.length
  | [] => by simp [inv]
  | a :: r => by
    have h1 := inv_le g r
    have h2 : r.countP (fun b => decide (0 < g a b)) ≤ r.length := List.countP_le_length
    unfold inv
    rw [List.length_cons, Nat.add_mul, Nat.mul_add]
    omega
theorem exch_len {g : Int → Int → Int} {m : Nat} (ha : Anti g) (ht : Tr g m) : ∀ (n : Nat) (r : List Int), (∀ i ∈ r, 0 ≤ i ∧ i < m) → inv g r ≤ n → (exchF g n r).length = inv g r ∧ Srt g (lastF g n r) ∧ (lastF g n r).Perm r
  | 0, r, hr, h => by
    have h0 : inv g r = 0 := by omega
    exact ⟨by simp [exchF, h0], srt_inv.mpr h0, List.Perm.refl _⟩
  | n + 1, r, hr, h => by
    unfold exchF lastF
    cases hf : firstG g r with
    | none =>
      have := (best_iff ht hr).mp (first_none hf)
      exact ⟨by simp only [List.length_nil]; exact (srt_inv.mp this).symm, this, List.Perm.refl _⟩
    | some p =>
      have e := inv_step ha hf
      have pm := swapF_perm (first_some hf).1
      obtain ⟨h1, h2, h3⟩ := exch_len ha ht n (swapF r p) (fun i hi => hr i (pm.mem_iff.mp hi)) (by omega)
      exact ⟨by simp only [List.length_cons, h1]; omega, h2, h3.trans pm⟩
/-! ### the program's exchanges -/
theorem isnot_on (o : Option Nat) : cmpD .IsNot (onD o) .non = some o.isSome := by cases o <;> rfl
theorem exchanges_at {k : Nat} (hk : 7 ≤ k) {ts ws r : List Int} (J : Jobs ts ws) (h : IsRow ts.length r) : CF T k 25 [dI ts, dI ws, dI r] = .ret (dI ((exchF (gn ts ws) 144 r).map fun (p : Nat) => (p : Int))) [] := by
  obtain ⟨k, rfl⟩ : ∃ j, k = j + 1 := ⟨k - 1, by omega⟩
  have hn := J.l2
  have turn : ∀ (n : Nat) (now found : List Int), IsRow ts.length now → inv (gn ts ws) now ≤ n → found.length + n ≤ 300 → ∃ now', whD (evb (CF T k) c_25_0) (exs (CF T k) w_25_1) [some (dI ts), some (dI ws), some (dI r), some (dI now), some (dI found), some (onD (firstG (gn ts ws) now))] = .next [some (dI ts), some (dI ws), some (dI r), some now', some (dI (found ++ (exchF (gn ts ws) n now).map fun (p : Nat) => (p : Int))), some .non] := by
    intro n
    have stop : ∀ (now found : List Int), firstG (gn ts ws) now = none → whD (evb (CF T k) c_25_0) (exs (CF T k) w_25_1) [some (dI ts), some (dI ws), some (dI r), some (dI now), some (dI found), some .non] = .next [some (dI ts), some (dI ws), some (dI r), some (dI now), some (dI found), some .non] := fun now found _ => by
      have : evb (CF T k) c_25_0 [some (dI ts), some (dI ws), some (dI r), some (dI now), some (dI found), some .non] = .ok false [some (dI ts), some (dI ws), some (dI r), some (dI now), some (dI found), some .non] := by
        simp -implicitDefEqProofs [runF, exs, ex, evb, evi, evc, evo, ev, evs, getE, callD, argsAt, outsAt, outsOf, IEs.owns, binD, cmpD, biD, addD, subD, leD, ltD, isiD, truD, negD, isL, eq_int, itemsD, bindT, len_dI, sz0, sz1, sz2, sz3, sz4, sz5, sz6, kt1, kt2, kt3, kt4, kt5, kt6, kt7, kt8, kt9, kt10, kt11, kt12, kt13, kt14, kt15, c_25_0, isD]
      rw [whD_eq, this]
    induction n with
    | zero =>
      intro now found hr hi hf
      have hb : firstG (gn ts ws) now = none := by
        cases q : firstG (gn ts ws) now with
        | none => rfl
        | some p => have := inv_step (gn_anti ts ws) q; omega
      refine ⟨dI now, ?_⟩
      rw [hb]
      show whD _ _ [some (dI ts), some (dI ws), some (dI r), some (dI now), some (dI found), some .non] = _
      rw [stop now found hb]
      simp [exchF]
    | succ n ih =>
      intro now found hr hi hf
      unfold exchF
      cases q : firstG (gn ts ws) now with
      | none =>
        refine ⟨dI now, ?_⟩
        show whD _ _ [some (dI ts), some (dI ws), some (dI r), some (dI now), some (dI found), some .non] = _
        rw [stop now found q]
        simp
      | some p =>
        obtain ⟨hp, hg⟩ := first_some q
        have pm := swapF_perm hp
        have hr2 := hr.perm pm
        have hc : evb (CF T k) c_25_0 [some (dI ts), some (dI ws), some (dI r), some (dI now), some (dI found), some (.int p)] = .ok true [some (dI ts), some (dI ws), some (dI r), some (dI now), some (dI found), some (.int p)] := by
          simp -implicitDefEqProofs [runF, exs, ex, evb, evi, evc, evo, ev, evs, getE, callD, argsAt, outsAt, outsOf, IEs.owns, binD, cmpD, biD, addD, subD, leD, ltD, isiD, truD, negD, isL, eq_int, itemsD, bindT, len_dI, sz0, sz1, sz2, sz3, sz4, sz5, sz6, kt1, kt2, kt3, kt4, kt5, kt6, kt7, kt8, kt9, kt10, kt11, kt12, kt13, kt14, kt15, c_25_0, isD]
        have x1 := exchanged_at (k := k) (by omega) hp (by rw [hr.len]; exact hn)
        have x2 := first_gain_at (k := k) (by omega) J hr2
        obtain ⟨now', e⟩ := ih (swapF now p) (found ++ [(p : Int)]) hr2 (by have := inv_step (gn_anti ts ws) q; omega) (by simp only [List.length_append, List.length_cons, List.length_nil]; omega)
        refine ⟨now', ?_⟩
        show whD _ _ [some (dI ts), some (dI ws), some (dI r), some (dI now), some (dI found), some (.int p)] = _
        rw [whD_eq, hc]
        simp only
        have hbody : exs (CF T k) w_25_1 [some (dI ts), some (dI ws), some (dI r), some (dI now), some (dI found), some (.int p)] = .next [some (dI ts), some (dI ws), some (dI r), some (dI (swapF now p)), some (dI (found ++ [(p : Int)])), some (onD (firstG (gn ts ws) (swapF now p)))] := by
          unfold w_25_1
          refine (exs_next (ex_app (d0 := dI found) (d := .int p) (xs := found.map D.int) (env1 := [some (dI ts), some (dI ws), some (dI r), some (dI now), some (dI found), some (.int p)]) rfl (by simp -implicitDefEqProofs [runF, exs, ex, evb, evi, evc, evo, ev, evs, getE, callD, argsAt, outsAt, outsOf, IEs.owns, binD, cmpD, biD, addD, subD, leD, ltD, isiD, truD, negD, isL, eq_int, itemsD, bindT, len_dI, sz0, sz1, sz2, sz3, sz4, sz5, sz6, kt1, kt2, kt3, kt4, kt5, kt6, kt7, kt8, kt9, kt10, kt11, kt12, kt13, kt14, kt15, ]) rfl (by rw [List.length_map]; exact Nat.lt_of_lt_of_le (by omega : found.length < 1000) (sz12 (Nat.le_refl _))))).trans ?_
          have e9 : found.map D.int ++ [D.int (p : Int)] = (found ++ [(p : Int)]).map D.int := by simp
          rw [e9]
          refine (exs_next (ex_set (d := dI (swapF now p)) (env1 := [some (dI ts), some (dI ws), some (dI r), some (dI now), some (dI (found ++ [(p : Int)])), some (.int p)]) (by simp -implicitDefEqProofs [runF, exs, ex, evb, evi, evc, evo, ev, evs, getE, callD, argsAt, outsAt, outsOf, IEs.owns, binD, cmpD, biD, addD, subD, leD, ltD, isiD, truD, negD, isL, eq_int, itemsD, bindT, len_dI, sz0, sz1, sz2, sz3, sz4, sz5, sz6, kt1, kt2, kt3, kt4, kt5, kt6, kt7, kt8, kt9, kt10, kt11, kt12, kt13, kt14, kt15, x1]) (fun h => by cases h) (by simp))).trans ?_
          refine (exs_next (ex_set (d := onD (firstG (gn ts ws) (swapF now p))) (env1 := [some (dI ts), some (dI ws), some (dI r), some (dI (swapF now p)), some (dI (found ++ [(p : Int)])), some (.int p)]) (by simp -implicitDefEqProofs [runF, exs, ex, evb, evi, evc, evo, ev, evs, getE, callD, argsAt, outsAt, outsOf, IEs.owns, binD, cmpD, biD, addD, subD, leD, ltD, isiD, truD, negD, isL, eq_int, itemsD, bindT, len_dI, sz0, sz1, sz2, sz3, sz4, sz5, sz6, kt1, kt2, kt3, kt4, kt5, kt6, kt7, kt8, kt9, kt10, kt11, kt12, kt13, kt14, kt15, x2]) (fun h => by cases h) (by simp))).trans exs_nil
        rw [hbody]
        simp only
        rw [e, List.append_assoc]
        rfl
  have h1 := check_jobs_at (k := k) (by omega) J
  have h2 := check_any_row_at (k := k) (by omega) h (by omega)
  have h3 := first_gain_at (k := k) (by omega) J h
  have hi : inv (gn ts ws) r ≤ 144 := by
    have := inv_le (gn ts ws) r
    rw [h.len] at this
    have h5 : ts.length * ts.length ≤ 12 * 12 := Nat.mul_le_mul hn hn
    omega
  obtain ⟨now', e⟩ := turn 144 r [] h hi (by simp)
  rw [cf_25]
  refine runF_ret (env := [some (dI ts), some (dI ws), some (dI r), some now', some (dI ((exchF (gn ts ws) 144 r).map fun (p : Nat) => (p : Int))), some .non]) ?_ rfl rfl rfl
  show exs (CF T k) f_25.body [some (dI ts), some (dI ws), some (dI r), none, none, none] = _
  refine (exs_next (ex_expr (d := .non) (env1 := [some (dI ts), some (dI ws), some (dI r), none, none, none]) (by simp -implicitDefEqProofs [runF, exs, ex, evb, evi, evc, evo, ev, evs, getE, callD, argsAt, outsAt, outsOf, IEs.owns, binD, cmpD, biD, addD, subD, leD, ltD, isiD, truD, negD, isL, eq_int, itemsD, bindT, len_dI, sz0, sz1, sz2, sz3, sz4, sz5, sz6, kt1, kt2, kt3, kt4, kt5, kt6, kt7, kt8, kt9, kt10, kt11, kt12, kt13, kt14, kt15, h1]))).trans ?_
  refine (exs_next (ex_expr (d := .non) (env1 := [some (dI ts), some (dI ws), some (dI r), none, none, none]) (by simp -implicitDefEqProofs [runF, exs, ex, evb, evi, evc, evo, ev, evs, getE, callD, argsAt, outsAt, outsOf, IEs.owns, binD, cmpD, biD, addD, subD, leD, ltD, isiD, truD, negD, isL, eq_int, itemsD, bindT, len_dI, sz0, sz1, sz2, sz3, sz4, sz5, sz6, kt1, kt2, kt3, kt4, kt5, kt6, kt7, kt8, kt9, kt10, kt11, kt12, kt13, kt14, kt15, h2]))).trans ?_
  refine (exs_next (ex_set (d := dI r) (env1 := [some (dI ts), some (dI ws), some (dI r), none, none, none]) (by simp -implicitDefEqProofs [runF, exs, ex, evb, evi, evc, evo, ev, evs, getE, callD, argsAt, outsAt, outsOf, IEs.owns, binD, cmpD, biD, addD, subD, leD, ltD, isiD, truD, negD, isL, eq_int, itemsD, bindT, len_dI, sz0, sz1, sz2, sz3, sz4, sz5, sz6, kt1, kt2, kt3, kt4, kt5, kt6, kt7, kt8, kt9, kt10, kt11, kt12, kt13, kt14, kt15, ]) (fun h => by cases h) (by simp))).trans ?_
  refine (exs_next (ex_set (d := dI []) (env1 := [some (dI ts), some (dI ws), some (dI r), some (dI r), none, none]) (by simp -implicitDefEqProofs [runF, exs, ex, evb, evi, evc, evo, ev, evs, getE, callD, argsAt, outsAt, outsOf, IEs.owns, binD, cmpD, biD, addD, subD, leD, ltD, isiD, truD, negD, isL, eq_int, itemsD, bindT, len_dI, sz0, sz1, sz2, sz3, sz4, sz5, sz6, kt1, kt2, kt3, kt4, kt5, kt6, kt7, kt8, kt9, kt10, kt11, kt12, kt13, kt14, kt15, ]) (fun h => rfl) (by simp))).trans ?_
  refine (exs_next (ex_set (d := onD (firstG (gn ts ws) r)) (env1 := [some (dI ts), some (dI ws), some (dI r), some (dI r), some (dI []), none]) (by simp -implicitDefEqProofs [runF, exs, ex, evb, evi, evc, evo, ev, evs, getE, callD, argsAt, outsAt, outsOf, IEs.owns, binD, cmpD, biD, addD, subD, leD, ltD, isiD, truD, negD, isL, eq_int, itemsD, bindT, len_dI, sz0, sz1, sz2, sz3, sz4, sz5, sz6, kt1, kt2, kt3, kt4, kt5, kt6, kt7, kt8, kt9, kt10, kt11, kt12, kt13, kt14, kt15, h3]) (fun h => by cases h) (by simp))).trans ?_
  refine (exs_next (ex_whl.trans e)).trans ?_
  refine (exs_next ex_frz).trans ?_
  exact exs_ret (ex_ret (by simp -implicitDefEqProofs [runF, exs, ex, evb, evi, evc, evo, ev, evs, getE, callD, argsAt, outsAt, outsOf, IEs.owns, binD, cmpD, biD, addD, subD, leD, ltD, isiD, truD, negD, isL, eq_int, itemsD, bindT, len_dI, sz0, sz1, sz2, sz3, sz4, sz5, sz6, kt1, kt2, kt3, kt4, kt5, kt6, kt7, kt8, kt9, kt10, kt11, kt12, kt13, kt14, kt15, ]))
end LT
namespace LT
open PySem VI
/-! W4: lots by ratio, how many best rows, what a job adds -/
def fac (m : Nat) : Int := (List.range (m - 1)).foldl (fun (s : Int) (i : Nat) => s * (2 + (i : Int))) 1
theorem product_to_at {k : Nat} (hk : 1 ≤ k) {m : Nat} (h1 : 1 ≤ m) (hm : m ≤ 12) : CF T k 26 [.int m] = .ret (.int (fac m)) [] ∧ (fac m).natAbs < 2 ^ 48 := by
  obtain ⟨k, rfl⟩ : ∃ j, k = j + 1 := ⟨k - 1, by omega⟩
  obtain ⟨o', e, q⟩ := forD_runB (m := 100) (t := .nm 2) (b := exs (CF T k) w_26_0) (mk := fun (s : Int) (o : Option D) => [some (.int m), some (.int s), o]) (inj := fun (i : Nat) => D.int (2 + (i : Int))) (f := fun (s : Int) (i : Nat) => s * (2 + (i : Int))) (P := fun i s => s.natAbs < 2 ^ (4 * (i + 1))) (List.range (m - 1)) 0 (by simp; omega) (fun i s x o hx hlt hs => by
    have hx : x < m - 1 := by simpa using hx
    have hi : (2 + (x : Int)).natAbs < 2 ^ 4 := by omega
    refine ⟨_, some (.int (2 + x)), by simp [bindT]; rfl, ?_, ?_⟩
    · have m1 := mul_int (4 * (i + 1)) 4 hs hi (by omega)
      simp -implicitDefEqProofs [runF, exs, ex, evb, evi, evc, evo, ev, evs, getE, callD, argsAt, outsAt, outsOf, IEs.owns, binD, cmpD, biD, addD, subD, leD, ltD, isiD, truD, negD, isL, eq_int, itemsD, bindT, len_dI, sz0, sz1, sz2, sz3, sz4, sz5, sz6, kt1, kt2, kt3, kt4, kt5, kt6, kt7, kt8, kt9, kt10, kt11, kt12, kt13, kt14, kt15, w_26_0, m1]
    · rw [Int.natAbs_mul]
      have : 2 ^ (4 * (i + 1 + 1)) = 2 ^ (4 * (i + 1)) * 2 ^ 4 := by rw [← Nat.pow_add]; rfl
      rw [this]
      exact Nat.mul_lt_mul'' hs hi) 1 none (by decide)
  have q' : (fac m).natAbs < 2 ^ 48 := by
    refine Nat.lt_of_lt_of_le q (Nat.pow_le_pow_right (by omega) ?_)
    simp only [List.length_range]
    omega
  refine ⟨?_, q'⟩
  have r1 : rngOk 2 = true := by decide
  have r2 : rngOk ((m : Int) + 1) = true := by
    have : (m : Int) + 1 = ((m + 1 : Nat) : Int) := by omega
    rw [this]
    exact rngOk_len (sz12 (by omega))
  have r3 : ((m : Int) + 1 - 2).toNat = m - 1 := by omega
  rw [cf_26]
  refine runF_ret (env := [some (.int m), some (.int (fac m)), o']) ?_ rfl rfl rfl
  show exs (CF T k) f_26.body [some (.int m), none, none] = _
  refine (exs_next (ex_set (d := .int 1) (env1 := [some (.int m), none, none]) (by simp -implicitDefEqProofs [runF, exs, ex, evb, evi, evc, evo, ev, evs, getE, callD, argsAt, outsAt, outsOf, IEs.owns, binD, cmpD, biD, addD, subD, leD, ltD, isiD, truD, negD, isL, eq_int, itemsD, bindT, len_dI, sz0, sz1, sz2, sz3, sz4, sz5, sz6, kt1, kt2, kt3, kt4, kt5, kt6, kt7, kt8, kt9, kt10, kt11, kt12, kt13, kt14, kt15, ]) (fun h => by cases h) (by simp))).trans ?_
  refine (exs_next ((ex_for (ds := (List.range (m - 1)).map fun (i : Nat) => D.int (2 + (i : Int))) (env1 := [some (.int m), some (.int 1), none]) (by simp -implicitDefEqProofs [runF, exs, ex, evb, evi, evc, evo, ev, evs, getE, callD, argsAt, outsAt, outsOf, IEs.owns, binD, cmpD, biD, addD, subD, leD, ltD, isiD, truD, negD, isL, eq_int, itemsD, bindT, len_dI, sz0, sz1, sz2, sz3, sz4, sz5, sz6, kt1, kt2, kt3, kt4, kt5, kt6, kt7, kt8, kt9, kt10, kt11, kt12, kt13, kt14, kt15, r1, r2, r3, range_dI])).trans e)).trans ?_
  exact exs_ret (ex_ret (by simp -implicitDefEqProofs [runF, exs, ex, evb, evi, evc, evo, ev, evs, getE, callD, argsAt, outsAt, outsOf, IEs.owns, binD, cmpD, biD, addD, subD, leD, ltD, isiD, truD, negD, isL, eq_int, itemsD, bindT, len_dI, sz0, sz1, sz2, sz3, sz4, sz5, sz6, kt1, kt2, kt3, kt4, kt5, kt6, kt7, kt8, kt9, kt10, kt11, kt12, kt13, kt14, kt15, fac]))
/-- a job is put into the lots -/
def addG (g : Int → Int → Int) (cs : List (List Int)) (j : Int) : List (List Int) := match cs.getLast? with
  | some l => if g (at_ l 0) j = 0 then cs.dropLast ++ [l ++ [j]] else cs ++ [[j]]
  | none => cs ++ [[j]]
def lotsF (g : Int → Int → Int) (r : List Int) : List (List Int) := (r.foldl (addG g) []).map sortI
def dL (cs : List (List Int)) : D := .lst (cs.map dI)
theorem lsts_dL (cs : List (List Int)) : lsts (cs.map fun l => l.map D.int) = dL cs := by
  unfold lsts dL
  rw [List.map_map]
  rfl
theorem eqD_dL (cs : List (List Int)) : eqD (dL cs) (.lst []) = some cs.isEmpty := by
  unfold dL
  rw [eqD_nil (n := 1) (List.all_eq_true.mpr fun x hx => ?_) (by omega), List.isEmpty_map]
  obtain ⟨l, _, rfl⟩ := List.mem_map.mp hx
  show (l.map D.int).all (shD 0) = true
  rw [List.all_map]
  exact List.all_eq_true.mpr fun _ _ => rfl
/-- the lots that are made -/
def GrpOk (n : Nat) (m : Nat) (cs : List (List Int)) : Prop := (∀ l ∈ cs, l ≠ [] ∧ ∀ j ∈ l, 0 ≤ j ∧ j < n) ∧ (cs.map List.length).sum = m
theorem addG_ok {g : Int → Int → Int} {n m : Nat} {cs : List (List Int)} {j : Int} (h : GrpOk n m cs) (h0 : 0 ≤ j) (h1 : j < n) : GrpOk n (m + 1) (addG g cs j) := by
  unfold addG
  have new : GrpOk n (m + 1) (cs ++ [[j]]) := ⟨fun l hl => by
    rcases List.mem_append.mp hl with q | q
    · exact h.1 l q
    · have : l = [j] := by simpa using q
      subst this
      exact ⟨by simp, fun i hi => by
        have : i = j := by simpa using hi
        subst this
        exact ⟨h0, h1⟩⟩, by simp [h.2]⟩
  cases hc : cs.getLast? with
  | none => exact new
  | some l =>
    simp only
    split
    · have hne : cs ≠ [] := fun z => by subst z; simp at hc
      have hl : l = cs.getLast hne := by rw [List.getLast?_eq_some_getLast hne] at hc; exact (Option.some.inj hc).symm
      have e : cs = cs.dropLast ++ [l] := by rw [hl]; exact (List.dropLast_concat_getLast hne).symm
      have hm : l ∈ cs := by rw [hl]; exact List.getLast_mem hne
      refine ⟨fun x hx => ?_, ?_⟩
      · rcases List.mem_append.mp hx with q | q
        · exact h.1 x (List.dropLast_subset _ q)
        · have : x = l ++ [j] := by simpa using q
          subst this
          refine ⟨by simp, fun i hi => ?_⟩
          rcases List.mem_append.mp hi with w | w
          · exact (h.1 l hm).2 i w
          · have : i = j := by simpa using w
            subst this
            exact ⟨h0, h1⟩
      · have h2 := h.2
        rw [e] at h2
        simp only [List.map_append, List.sum_append, List.map_cons, List.map_nil, List.sum_cons, List.sum_nil, List.length_append, List.length_cons, List.length_nil] at h2 ⊢
        omega
    · exact new
theorem pickF_rg {g : Int → Int → Int} {n : Nat} : ∀ (m : Nat) (l : List Int), (∀ j ∈ l, 0 ≤ j ∧ j < n) → ∀ j ∈ byR g m l, 0 ≤ j ∧ j < n
  | 0, _, _, j, hj => by simp [byR] at hj
  | m + 1, [], _, j, hj => by simp [byR] at hj
  | m + 1, a :: l, h, j, hj => by
    unfold byR at hj
    rcases List.mem_cons.mp hj with rfl | hj
    · exact h _ (pick_in g a l)
    · exact pickF_rg m _ (fun i hi => h i (List.mem_filter.mp hi).1) j hj
theorem byR_len (g : Int → Int → Int) : ∀ (m : Nat) (l : List Int), (byR g m l).length ≤ m
  | 0, _ => by simp [byR]
  | m + 1, [] => by simp [byR]
  | m + 1, a :: l => by
    unfold byR
    have := byR_len g m ((a :: l).filter fun j => !(j == pickF g a (a :: l)))
    simp only [List.length_cons]
    omega
theorem jobs_rg {n : Nat} : ∀ j ∈ jobs n, 0 ≤ j ∧ j < n := fun j hj => by
  obtain ⟨i, hi, rfl⟩ := List.mem_map.mp hj
  have : i < n := by simpa using hi
  omega
theorem grp_len {n m : Nat} {cs : List (List Int)} (h : GrpOk n m cs) : cs.length ≤ m ∧ ∀ l ∈ cs, l.length ≤ m := by
  obtain ⟨h1, h2⟩ := h
  subst h2
  induction cs with
  | nil => simp
  | cons c cs ih =>
    obtain ⟨i1, i2⟩ := ih fun l hl => h1 l (List.mem_cons_of_mem _ hl)
    have hc : 1 ≤ c.length := List.length_pos_iff.mpr (h1 c (List.mem_cons_self ..)).1
    simp only [List.map_cons, List.sum_cons, List.length_cons]
    refine ⟨by omega, fun l hl => ?_⟩
    rcases List.mem_cons.mp hl with rfl | hl
    · omega
    · have := i2 l hl
      omega
abbrev encL (cs : List (List Int)) : List (List D) := cs.map fun l => l.map D.int
theorem alike_lots_at {k : Nat} (hk : 3 ≤ k) {ts ws : List Int} (J : Jobs ts ws) : CF T k 27 [dI ts, dI ws] = .ret (dL (lotsF (gn ts ws) (byR (gn ts ws) ts.length (jobs ts.length)))) [] ∧ GrpOk ts.length (byR (gn ts ws) ts.length (jobs ts.length)).length ((byR (gn ts ws) ts.length (jobs ts.length)).foldl (addG (gn ts ws)) []) := by
  obtain ⟨k, rfl⟩ : ∃ j, k = j + 1 := ⟨k - 1, by omega⟩
  have hn := J.l2
  have hb := by_ratio_at (k := k) (by omega) J
  have hrg := pickF_rg (g := gn ts ws) (n := ts.length) ts.length (jobs ts.length) jobs_rg
  have hbl := byR_len (gn ts ws) ts.length (jobs ts.length)
  generalize hrow : byR (gn ts ws) ts.length (jobs ts.length) = row at *
  obtain ⟨o', e, q⟩ := forDd_run (m := 1000) (t := .nm 3) (b := exDs (CF T k) 2 w_27_0) (mk := fun (o : Option D) => [some (dI ts), some (dI ws), none, o, none]) (enc := encL) (inj := D.int) (f := addG (gn ts ws)) (P := fun i cs => GrpOk ts.length i cs) row 0 (by omega) (fun i cs j o hj hi hs => by
    obtain ⟨j0, j1⟩ := hrg j hj
    refine ⟨_, some (.int j), by simp [bindT]; rfl, ?_, addG_ok hs j0 j1⟩
    · have G := hs
      obtain ⟨g1, g2⟩ := grp_len G
      have hcl : cs.length < sizeLine := Nat.lt_of_lt_of_le (by omega : cs.length < 2000) (sz_le (by omega))
      have new : exD (CF T k) 2 (.appN (.lst (.cons (.var 3) .nil))) (encL cs) [some (dI ts), some (dI ws), none, some (.int j), none] = .next (encL (cs ++ [[j]])) [some (dI ts), some (dI ws), none, some (.int j), none] := by
        unfold exD
        have : ev (CF T k) (.lst (.cons (.var 3) .nil)) [some (dI ts), some (dI ws), none, some (.int j), none] = .ok (.lst [.int j]) [some (dI ts), some (dI ws), none, some (.int j), none] := by simp -implicitDefEqProofs [runF, exs, ex, evb, evi, evc, evo, ev, evs, getE, callD, argsAt, outsAt, outsOf, IEs.owns, binD, cmpD, biD, addD, subD, leD, ltD, isiD, truD, negD, isL, eq_int, itemsD, bindT, len_dI, sz0, sz1, sz2, sz3, sz4, sz5, sz6, kt1, kt2, kt3, kt4, kt5, kt6, kt7, kt8, kt9, kt10, kt11, kt12, kt13, kt14, kt15, ]
        rw [this]
        simp only
        rw [if_pos (by rw [List.length_map]; exact hcl)]
        simp
      unfold w_27_0 exDs exD exDs
      simp only [List.set_cons_succ, List.set_cons_zero, lsts_dL]
      cases hc : cs.getLast? with
      | none =>
        have hcs : cs = [] := List.getLast?_eq_none_iff.mp hc
        subst hcs
        have ec : evb (CF T k) (.and (.cmp .NotEq (.var 2) (.lst .nil)) (.cmp .Eq (.call 14 (.cons (.var 0) (.cons (.var 1) (.cons (.idx (.idx (.var 2) (.neg (.int 1))) (.int 0)) (.cons (.var 3) .nil))))) (.int 0))) [some (dI ts), some (dI ws), some (dL []), some (.int j), none] = .ok false [some (dI ts), some (dI ws), some (dL []), some (.int j), none] := by
          have := eqD_dL []
          simp -implicitDefEqProofs [runF, exs, ex, evb, evi, evc, evo, ev, evs, getE, callD, argsAt, outsAt, outsOf, IEs.owns, binD, cmpD, biD, addD, subD, leD, ltD, isiD, truD, negD, isL, eq_int, itemsD, bindT, len_dI, sz0, sz1, sz2, sz3, sz4, sz5, sz6, kt1, kt2, kt3, kt4, kt5, kt6, kt7, kt8, kt9, kt10, kt11, kt12, kt13, kt14, kt15, this]
        rw [ec]
        simp only
        unfold exDs
        rw [new]
        simp only [exDs, addG, hc]
      | some l =>
        have hne : cs ≠ [] := fun z => by subst z; simp at hc
        have hl : l = cs.getLast hne := by rw [List.getLast?_eq_some_getLast hne] at hc; exact (Option.some.inj hc).symm
        have ecs : cs = cs.dropLast ++ [l] := by rw [hl]; exact (List.dropLast_concat_getLast hne).symm
        have hm : l ∈ cs := by rw [hl]; exact List.getLast_mem hne
        obtain ⟨l1, l2⟩ := G.1 l hm
        have hlp : 0 < l.length := List.length_pos_iff.mpr l1
        have e1 : idxD (dL cs) (.int (-1)) = some (dI l) := by
          show L2.atI (cs.map dI) (-1) = _
          rw [ecs, List.map_append]
          exact L2.atI_last _ _
        have e2 := idx_at (xs := l) (i := 0) (by omega) (by omega)
        have a0 := l2 _ (at_mem (xs := l) (i := 0) hlp)
        have g3 := gain_of_at (k := k) (by omega) J a0.1 a0.2 j0 j1
        have e3 : eqD (dL cs) (.lst []) = some false := by
          rw [eqD_dL]
          cases cs with
          | nil => exact absurd rfl hne
          | cons _ _ => rfl
        have ec : evb (CF T k) (.and (.cmp .NotEq (.var 2) (.lst .nil)) (.cmp .Eq (.call 14 (.cons (.var 0) (.cons (.var 1) (.cons (.idx (.idx (.var 2) (.neg (.int 1))) (.int 0)) (.cons (.var 3) .nil))))) (.int 0))) [some (dI ts), some (dI ws), some (dL cs), some (.int j), none] = .ok (gn ts ws (at_ l 0) j == 0) [some (dI ts), some (dI ws), some (dL cs), some (.int j), none] := by
          have g3' : CF T k 14 [dI ts, dI ws, .int (at_ l 0), .int j] = .ret (.int (gn ts ws (at_ l 0) j)) [] := g3
          simp -implicitDefEqProofs [runF, exs, ex, evb, evi, evc, evo, ev, evs, getE, callD, argsAt, outsAt, outsOf, IEs.owns, binD, cmpD, biD, addD, subD, leD, ltD, isiD, truD, negD, isL, eq_int, itemsD, bindT, len_dI, sz0, sz1, sz2, sz3, sz4, sz5, sz6, kt1, kt2, kt3, kt4, kt5, kt6, kt7, kt8, kt9, kt10, kt11, kt12, kt13, kt14, kt15, e1, e2, e3, g3']
        rw [ec]
        simp only
        by_cases hz : gn ts ws (at_ l 0) j = 0
        · have hz' : (gn ts ws (at_ l 0) j == 0) = true := by simpa using hz
          rw [hz']
          simp only
          have happ : exD (CF T k) 2 (.appC (.neg (.int 1)) (.var 3)) (encL cs) [some (dI ts), some (dI ws), none, some (.int j), none] = .next (encL (cs.dropLast ++ [l ++ [j]])) [some (dI ts), some (dI ws), none, some (.int j), none] := by
            unfold exD
            have x1 : ev (CF T k) (.neg (.int 1)) [some (dI ts), some (dI ws), none, some (.int j), none] = .ok (.int (-1)) [some (dI ts), some (dI ws), none, some (.int j), none] := by simp -implicitDefEqProofs [runF, exs, ex, evb, evi, evc, evo, ev, evs, getE, callD, argsAt, outsAt, outsOf, IEs.owns, binD, cmpD, biD, addD, subD, leD, ltD, isiD, truD, negD, isL, eq_int, itemsD, bindT, len_dI, sz0, sz1, sz2, sz3, sz4, sz5, sz6, kt1, kt2, kt3, kt4, kt5, kt6, kt7, kt8, kt9, kt10, kt11, kt12, kt13, kt14, kt15, ]
            have x2 : ev (CF T k) (.var 3) [some (dI ts), some (dI ws), none, some (.int j), none] = .ok (.int j) [some (dI ts), some (dI ws), none, some (.int j), none] := by simp -implicitDefEqProofs [runF, exs, ex, evb, evi, evc, evo, ev, evs, getE, callD, argsAt, outsAt, outsOf, IEs.owns, binD, cmpD, biD, addD, subD, leD, ltD, isiD, truD, negD, isL, eq_int, itemsD, bindT, len_dI, sz0, sz1, sz2, sz3, sz4, sz5, sz6, kt1, kt2, kt3, kt4, kt5, kt6, kt7, kt8, kt9, kt10, kt11, kt12, kt13, kt14, kt15, ]
            rw [x1]
            simp only
            have hpos : 0 < cs.length := List.length_pos_iff.mpr hne
            have x3 : L2.ixN (encL cs).length (-1) = some (cs.length - 1) := by
              unfold L2.ixN
              rw [List.length_map, if_neg (by omega), if_pos (by omega)]
              congr 1
              omega
            rw [x3]
            simp only
            have x4 : (encL cs)[cs.length - 1]? = some (l.map D.int) := by
              rw [List.getElem?_map, ← List.getLast?_eq_getElem?, hc]
              rfl
            rw [x4]
            simp only
            rw [x2]
            simp only
            rw [if_pos (by rw [List.length_map]; exact Nat.lt_of_lt_of_le (by have := g2 l hm; omega : l.length < 2000) (sz_le (by omega)))]
            congr 1
            have x5 : encL cs = encL cs.dropLast ++ [l.map D.int] := by
              conv => lhs; rw [ecs]
              simp
            rw [x5, List.set_append_right _ _ (by simp)]
            simp
          unfold exDs
          rw [happ]
          simp only [exDs, addG, hc, hz, if_true]
        · have hz' : (gn ts ws (at_ l 0) j == 0) = false := by simpa using hz
          rw [hz']
          simp only
          unfold exDs
          rw [new]
          simp only [exDs, addG, hc, hz, if_false]) [] none ⟨fun l hl => by simp at hl, rfl⟩
  rw [Nat.zero_add] at q
  refine ⟨?_, q⟩
  obtain ⟨g1, g2⟩ := grp_len q
  have hd : ex (CF T k) (.deep 2 (.cons (.for_ (.nm 3) (.val (.call 18 (.cons (.var 0) (.cons (.var 1) .nil)))) w_27_0) .nil)) [some (dI ts), some (dI ws), none, none, none] = .next [some (dI ts), some (dI ws), some (dL (row.foldl (addG (gn ts ws)) [])), o', none] := by
    unfold ex
    rw [if_pos (by simp)]
    unfold exDs exD exDs
    have hi : evi (CF T k) (.val (.call 18 (.cons (.var 0) (.cons (.var 1) .nil)))) [some (dI ts), some (dI ws), none, none, none] = .ok (row.map D.int) [some (dI ts), some (dI ws), none, none, none] := by
      simp -implicitDefEqProofs [runF, exs, ex, evb, evi, evc, evo, ev, evs, getE, callD, argsAt, outsAt, outsOf, IEs.owns, binD, cmpD, biD, addD, subD, leD, ltD, isiD, truD, negD, isL, eq_int, itemsD, bindT, len_dI, sz0, sz1, sz2, sz3, sz4, sz5, sz6, kt1, kt2, kt3, kt4, kt5, kt6, kt7, kt8, kt9, kt10, kt11, kt12, kt13, kt14, kt15, hb]
    simp only [List.set_cons_succ, List.set_cons_zero]
    rw [hi]
    simp only
    have e' : forDd (.nm 3) (exDs (CF T k) 2 w_27_0) (row.map D.int) [] [some (dI ts), some (dI ws), none, none, none] = _ := e
    rw [e']
    simp only [List.set_cons_succ, List.set_cons_zero, lsts_dL]
  have hl : ev (CF T k) l_27_1 [some (dI ts), some (dI ws), some (dL (row.foldl (addG (gn ts ws)) [])), o', none] = .ok (dL (lotsF (gn ts ws) row)) [some (dI ts), some (dI ws), some (dL (row.foldl (addG (gn ts ws)) [])), o', none] := by
    have := ev_lcm (α := List Int) (C := CF T k) (i := 4) (it := .val (.var 2)) (e := .bi .sorted (.cons (.var 4) .nil)) (env := [some (dI ts), some (dI ws), some (dL (row.foldl (addG (gn ts ws)) [])), o', none]) (g := fun l => dI (sortI l)) (inj := dI) (row.foldl (addG (gn ts ws)) []) (by simp) (by simp -implicitDefEqProofs [runF, exs, ex, evb, evi, evc, evo, ev, evs, getE, callD, argsAt, outsAt, outsOf, IEs.owns, binD, cmpD, biD, addD, subD, leD, ltD, isiD, truD, negD, isL, eq_int, itemsD, bindT, len_dI, sz0, sz1, sz2, sz3, sz4, sz5, sz6, kt1, kt2, kt3, kt4, kt5, kt6, kt7, kt8, kt9, kt10, kt11, kt12, kt13, kt14, kt15, dL]) (sz12 (by omega)) (fun x hx => by
      refine ev_bi1 (x := dI x) (by simp -implicitDefEqProofs [runF, exs, ex, evb, evi, evc, evo, ev, evs, getE, callD, argsAt, outsAt, outsOf, IEs.owns, binD, cmpD, biD, addD, subD, leD, ltD, isiD, truD, negD, isL, eq_int, itemsD, bindT, len_dI, sz0, sz1, sz2, sz3, sz4, sz5, sz6, kt1, kt2, kt3, kt4, kt5, kt6, kt7, kt8, kt9, kt10, kt11, kt12, kt13, kt14, kt15, ]) (sorted_dI ?_)
      have := g2 x hx
      omega)
    have e2 : dL (lotsF (gn ts ws) row) = .lst ((row.foldl (addG (gn ts ws)) []).map fun l => dI (sortI l)) := by
      unfold dL lotsF
      rw [List.map_map]
      rfl
    rw [e2]
    exact this
  rw [cf_27]
  refine runF_ret (env := [some (dI ts), some (dI ws), some (dL (row.foldl (addG (gn ts ws)) [])), o', none]) ?_ rfl rfl rfl
  show exs (CF T k) f_27.body [some (dI ts), some (dI ws), none, none, none] = _
  exact (exs_next hd).trans (exs_ret (ex_ret hl))
abbrev rowF (ts ws : List Int) : List Int := byR (gn ts ws) ts.length (jobs ts.length)
abbrev lotsOf (ts ws : List Int) : List (List Int) := lotsF (gn ts ws) (rowF ts ws)
theorem lots_by_ratio_at {k : Nat} (hk : 7 ≤ k) {ts ws : List Int} (J : Jobs ts ws) : CF T k 29 [dI ts, dI ws] = .ret (dL (lotsOf ts ws)) [] := by
  obtain ⟨k, rfl⟩ : ∃ j, k = j + 1 := ⟨k - 1, by omega⟩
  have h1 := check_jobs_at (k := k) (by omega) J
  have h3 := (alike_lots_at (k := k) (by omega) J).1
  rw [cf_29]
  simp -implicitDefEqProofs [runF, exs, ex, evb, evi, evc, evo, ev, evs, getE, callD, argsAt, outsAt, outsOf, IEs.owns, binD, cmpD, biD, addD, subD, leD, ltD, isiD, truD, negD, isL, eq_int, itemsD, bindT, len_dI, sz0, sz1, sz2, sz3, sz4, sz5, sz6, kt1, kt2, kt3, kt4, kt5, kt6, kt7, kt8, kt9, kt10, kt11, kt12, kt13, kt14, kt15, f_29, h1, h3]
theorem sortI_len (l : List Int) : (sortI l).length = l.length := (List.mergeSort_perm l _).length_eq
def countF (cs : List (List Int)) : Int := cs.foldl (fun (s : Int) (l : List Int) => s * fac l.length) 1
theorem count_at {k : Nat} (hk : 7 ≤ k) {ts ws : List Int} (J : Jobs ts ws) : CF T k 28 [dI ts, dI ws] = .ret (.int (countF (lotsOf ts ws))) [] := by
  obtain ⟨k, rfl⟩ : ∃ j, k = j + 1 := ⟨k - 1, by omega⟩
  have hn := J.l2
  have h1 := check_jobs_at (k := k) (by omega) J
  obtain ⟨h3, G⟩ := alike_lots_at (k := k) (by omega) J
  have hbl := byR_len (gn ts ws) ts.length (jobs ts.length)
  obtain ⟨g1, g2⟩ := grp_len G
  have hlots : ∀ l ∈ lotsOf ts ws, 1 ≤ l.length ∧ l.length ≤ 12 := fun l hl => by
    obtain ⟨c, hc, rfl⟩ := List.mem_map.mp hl
    have a1 := List.length_pos_iff.mpr (G.1 c hc).1
    have a2 := g2 c hc
    rw [sortI_len]
    omega
  have hll : (lotsOf ts ws).length ≤ 12 := by
    show ((_ : List (List Int)).map sortI).length ≤ 12
    rw [List.length_map]
    exact Nat.le_trans g1 (Nat.le_trans hbl hn)
  obtain ⟨o', e, q⟩ := forD_runB (m := 12) (t := .nm 3) (b := exs (CF T k) w_28_0) (mk := fun (s : Int) (o : Option D) => [some (dI ts), some (dI ws), some (.int s), o]) (inj := dI) (f := fun (s : Int) (l : List Int) => s * fac l.length) (P := fun i s => s.natAbs < 2 ^ (48 * (i + 1))) (lotsOf ts ws) 0 (by omega) (fun i s l o hl hi hs => by
    obtain ⟨a1, a2⟩ := hlots l hl
    obtain ⟨p1, p2⟩ := product_to_at (k := k) (by omega) a1 a2
    refine ⟨_, some (dI l), by simp [bindT]; rfl, ?_, ?_⟩
    · have m1 := mul_int (48 * (i + 1)) 48 hs p2 (by omega)
      simp -implicitDefEqProofs [runF, exs, ex, evb, evi, evc, evo, ev, evs, getE, callD, argsAt, outsAt, outsOf, IEs.owns, binD, cmpD, biD, addD, subD, leD, ltD, isiD, truD, negD, isL, eq_int, itemsD, bindT, len_dI, sz0, sz1, sz2, sz3, sz4, sz5, sz6, kt1, kt2, kt3, kt4, kt5, kt6, kt7, kt8, kt9, kt10, kt11, kt12, kt13, kt14, kt15, w_28_0, p1, m1]
    · rw [Int.natAbs_mul]
      have : 2 ^ (48 * (i + 1 + 1)) = 2 ^ (48 * (i + 1)) * 2 ^ 48 := by rw [← Nat.pow_add]; rfl
      rw [this]
      exact Nat.mul_lt_mul'' hs p2) 1 none (by decide)
  rw [cf_28]
  refine runF_ret (env := [some (dI ts), some (dI ws), some (.int (countF (lotsOf ts ws))), o']) ?_ rfl rfl rfl
  show exs (CF T k) f_28.body [some (dI ts), some (dI ws), none, none] = _
  refine (exs_next (ex_expr (d := .non) (env1 := [some (dI ts), some (dI ws), none, none]) (by simp -implicitDefEqProofs [runF, exs, ex, evb, evi, evc, evo, ev, evs, getE, callD, argsAt, outsAt, outsOf, IEs.owns, binD, cmpD, biD, addD, subD, leD, ltD, isiD, truD, negD, isL, eq_int, itemsD, bindT, len_dI, sz0, sz1, sz2, sz3, sz4, sz5, sz6, kt1, kt2, kt3, kt4, kt5, kt6, kt7, kt8, kt9, kt10, kt11, kt12, kt13, kt14, kt15, h1]))).trans ?_
  refine (exs_next (ex_set (d := .int 1) (env1 := [some (dI ts), some (dI ws), none, none]) (by simp -implicitDefEqProofs [runF, exs, ex, evb, evi, evc, evo, ev, evs, getE, callD, argsAt, outsAt, outsOf, IEs.owns, binD, cmpD, biD, addD, subD, leD, ltD, isiD, truD, negD, isL, eq_int, itemsD, bindT, len_dI, sz0, sz1, sz2, sz3, sz4, sz5, sz6, kt1, kt2, kt3, kt4, kt5, kt6, kt7, kt8, kt9, kt10, kt11, kt12, kt13, kt14, kt15, ]) (fun h => by cases h) (by simp))).trans ?_
  refine (exs_next ((ex_for (ds := (lotsOf ts ws).map dI) (env1 := [some (dI ts), some (dI ws), some (.int 1), none]) (by simp -implicitDefEqProofs [runF, exs, ex, evb, evi, evc, evo, ev, evs, getE, callD, argsAt, outsAt, outsOf, IEs.owns, binD, cmpD, biD, addD, subD, leD, ltD, isiD, truD, negD, isL, eq_int, itemsD, bindT, len_dI, sz0, sz1, sz2, sz3, sz4, sz5, sz6, kt1, kt2, kt3, kt4, kt5, kt6, kt7, kt8, kt9, kt10, kt11, kt12, kt13, kt14, kt15, h3, dL])).trans e)).trans ?_
  exact exs_ret (ex_ret (by simp -implicitDefEqProofs [runF, exs, ex, evb, evi, evc, evo, ev, evs, getE, callD, argsAt, outsAt, outsOf, IEs.owns, binD, cmpD, biD, addD, subD, leD, ltD, isiD, truD, negD, isL, eq_int, itemsD, bindT, len_dI, sz0, sz1, sz2, sz3, sz4, sz5, sz6, kt1, kt2, kt3, kt4, kt5, kt6, kt7, kt8, kt9, kt10, kt11, kt12, kt13, kt14, kt15, countF]))
/-- all jobs but one -/
def restF (n : Nat) (j : Int) : List Int := (jobs n).filter fun i => !(i == j)
def withF (ts ws : List Int) (j : Int) : Int := leastF ts ws - leastF ((restF ts.length j).map (at_ ts)) ((restF ts.length j).map (at_ ws))
theorem Jobs.rest {ts ws : List Int} (J : Jobs ts ws) (j : Int) : Jb ((restF ts.length j).map (at_ ts)) ((restF ts.length j).map (at_ ws)) where
  l2 := by
    rw [List.length_map]
    have h1 : (restF ts.length j).length ≤ (jobs ts.length).length := List.length_filter_le _ _
    have h2 : (jobs ts.length).length = ts.length := by simp [jobs]
    have := J.l2
    omega
  lw := by rw [List.length_map, List.length_map]
  t := fun x hx => by
    obtain ⟨i, hi, rfl⟩ := List.mem_map.mp hx
    obtain ⟨a, b⟩ := jobs_rg i (List.mem_filter.mp hi).1
    exact J.ti a b
  w := fun x hx => by
    obtain ⟨i, hi, rfl⟩ := List.mem_map.mp hx
    obtain ⟨a, b⟩ := jobs_rg i (List.mem_filter.mp hi).1
    exact J.wi a b
theorem cost_with_at {k : Nat} (hk : 7 ≤ k) {ts ws : List Int} (J : Jobs ts ws) {j : Int} (j0 : 0 ≤ j) (j1 : j < ts.length) : CF T k 30 [dI ts, dI ws, .int j] = .ret (.int (withF ts ws j)) [] := by
  obtain ⟨k, rfl⟩ : ∃ j, k = j + 1 := ⟨k - 1, by omega⟩
  have hn := J.l2
  have lw := J.lw
  have h1 := check_jobs_at (k := k) (by omega) J
  have h2 := check_job_at (k := k) (by omega) j0 j1
  have h3 := least_of_at (k := k) (by omega) J.toJb
  have h4 := least_of_at (k := k) (by omega) (J.rest j)
  have r1 : rngOk (ts.length : Int) = true := rngOk_len (sz12 (by omega))
  have hrl : (restF ts.length j).length ≤ 12 := by
    have := (J.rest j).l2
    rwa [List.length_map] at this
  have hrr : ∀ i ∈ restF ts.length j, 0 ≤ i ∧ i < ts.length := fun i hi => jobs_rg i (List.mem_filter.mp hi).1
  have e1 : ev (CF T k) l_30_0 [some (dI ts), some (dI ws), some (.int j), none, none, none] = .ok (dI (restF ts.length j)) [some (dI ts), some (dI ws), some (.int j), none, none, none] := by
    exact ev_lc1 (α := Int) (C := CF T k) (i := 4) (it := .rng (.bi .len (.cons (.var 0) .nil))) (c := .some (.cmp .NotEq (.var 4) (.var 2))) (e := .var 4) (env := [some (dI ts), some (dI ws), some (.int j), none, none, none]) (p := fun i => !(i == j)) (g := .int) (inj := .int) (jobs ts.length) (by simp) (by
      have : (jobs ts.length).map D.int = (List.range ts.length).map fun (i : Nat) => D.int i := by simp [jobs]
      simp -implicitDefEqProofs [runF, exs, ex, evb, evi, evc, evo, ev, evs, getE, callD, argsAt, outsAt, outsOf, IEs.owns, binD, cmpD, biD, addD, subD, leD, ltD, isiD, truD, negD, isL, eq_int, itemsD, bindT, len_dI, sz0, sz1, sz2, sz3, sz4, sz5, sz6, kt1, kt2, kt3, kt4, kt5, kt6, kt7, kt8, kt9, kt10, kt11, kt12, kt13, kt14, kt15, r1, range_dI, this]) (sz12 (by simp [jobs]; omega)) (fun x hx => by simp -implicitDefEqProofs [runF, exs, ex, evb, evi, evc, evo, ev, evs, getE, callD, argsAt, outsAt, outsOf, IEs.owns, binD, cmpD, biD, addD, subD, leD, ltD, isiD, truD, negD, isL, eq_int, itemsD, bindT, len_dI, sz0, sz1, sz2, sz3, sz4, sz5, sz6, kt1, kt2, kt3, kt4, kt5, kt6, kt7, kt8, kt9, kt10, kt11, kt12, kt13, kt14, kt15, ]) (fun x hx _ => by simp -implicitDefEqProofs [runF, exs, ex, evb, evi, evc, evo, ev, evs, getE, callD, argsAt, outsAt, outsOf, IEs.owns, binD, cmpD, biD, addD, subD, leD, ltD, isiD, truD, negD, isL, eq_int, itemsD, bindT, len_dI, sz0, sz1, sz2, sz3, sz4, sz5, sz6, kt1, kt2, kt3, kt4, kt5, kt6, kt7, kt8, kt9, kt10, kt11, kt12, kt13, kt14, kt15, ])
  have e2 : ev (CF T k) l_30_1 [some (dI ts), some (dI ws), some (.int j), some (dI (restF ts.length j)), none, none] = .ok (dI ((restF ts.length j).map (at_ ts))) [some (dI ts), some (dI ws), some (.int j), some (dI (restF ts.length j)), none, none] := by
    have := ev_lcm (α := Int) (C := CF T k) (i := 4) (it := .val (.var 3)) (e := .idx (.var 0) (.var 4)) (env := [some (dI ts), some (dI ws), some (.int j), some (dI (restF ts.length j)), none, none]) (g := fun i => .int (at_ ts i)) (inj := .int) (restF ts.length j) (by simp) (by simp -implicitDefEqProofs [runF, exs, ex, evb, evi, evc, evo, ev, evs, getE, callD, argsAt, outsAt, outsOf, IEs.owns, binD, cmpD, biD, addD, subD, leD, ltD, isiD, truD, negD, isL, eq_int, itemsD, bindT, len_dI, sz0, sz1, sz2, sz3, sz4, sz5, sz6, kt1, kt2, kt3, kt4, kt5, kt6, kt7, kt8, kt9, kt10, kt11, kt12, kt13, kt14, kt15, ]) (sz12 (by omega)) (fun x hx => by
      have := idx_at (xs := ts) (hrr x hx).1 (hrr x hx).2
      simp -implicitDefEqProofs [runF, exs, ex, evb, evi, evc, evo, ev, evs, getE, callD, argsAt, outsAt, outsOf, IEs.owns, binD, cmpD, biD, addD, subD, leD, ltD, isiD, truD, negD, isL, eq_int, itemsD, bindT, len_dI, sz0, sz1, sz2, sz3, sz4, sz5, sz6, kt1, kt2, kt3, kt4, kt5, kt6, kt7, kt8, kt9, kt10, kt11, kt12, kt13, kt14, kt15, this])
    rw [dI_map]
    exact this
  have e3 : ev (CF T k) l_30_2 [some (dI ts), some (dI ws), some (.int j), some (dI (restF ts.length j)), none, none] = .ok (dI ((restF ts.length j).map (at_ ws))) [some (dI ts), some (dI ws), some (.int j), some (dI (restF ts.length j)), none, none] := by
    have := ev_lcm (α := Int) (C := CF T k) (i := 4) (it := .val (.var 3)) (e := .idx (.var 1) (.var 4)) (env := [some (dI ts), some (dI ws), some (.int j), some (dI (restF ts.length j)), none, none]) (g := fun i => .int (at_ ws i)) (inj := .int) (restF ts.length j) (by simp) (by simp -implicitDefEqProofs [runF, exs, ex, evb, evi, evc, evo, ev, evs, getE, callD, argsAt, outsAt, outsOf, IEs.owns, binD, cmpD, biD, addD, subD, leD, ltD, isiD, truD, negD, isL, eq_int, itemsD, bindT, len_dI, sz0, sz1, sz2, sz3, sz4, sz5, sz6, kt1, kt2, kt3, kt4, kt5, kt6, kt7, kt8, kt9, kt10, kt11, kt12, kt13, kt14, kt15, ]) (sz12 (by omega)) (fun x hx => by
      have := idx_at (xs := ws) (hrr x hx).1 (by rw [lw]; exact (hrr x hx).2)
      simp -implicitDefEqProofs [runF, exs, ex, evb, evi, evc, evo, ev, evs, getE, callD, argsAt, outsAt, outsOf, IEs.owns, binD, cmpD, biD, addD, subD, leD, ltD, isiD, truD, negD, isL, eq_int, itemsD, bindT, len_dI, sz0, sz1, sz2, sz3, sz4, sz5, sz6, kt1, kt2, kt3, kt4, kt5, kt6, kt7, kt8, kt9, kt10, kt11, kt12, kt13, kt14, kt15, this])
    rw [dI_map]
    exact this
  rw [cf_30]
  refine runF_ret (env := [some (dI ts), some (dI ws), some (.int j), some (dI (restF ts.length j)), none, some (.int (leastF ((restF ts.length j).map (at_ ts)) ((restF ts.length j).map (at_ ws))))]) ?_ rfl rfl rfl
  show exs (CF T k) f_30.body [some (dI ts), some (dI ws), some (.int j), none, none, none] = _
  refine (exs_next (ex_expr (d := .non) (env1 := [some (dI ts), some (dI ws), some (.int j), none, none, none]) (by simp -implicitDefEqProofs [runF, exs, ex, evb, evi, evc, evo, ev, evs, getE, callD, argsAt, outsAt, outsOf, IEs.owns, binD, cmpD, biD, addD, subD, leD, ltD, isiD, truD, negD, isL, eq_int, itemsD, bindT, len_dI, sz0, sz1, sz2, sz3, sz4, sz5, sz6, kt1, kt2, kt3, kt4, kt5, kt6, kt7, kt8, kt9, kt10, kt11, kt12, kt13, kt14, kt15, h1]))).trans ?_
  refine (exs_next (ex_expr (d := .non) (env1 := [some (dI ts), some (dI ws), some (.int j), none, none, none]) (by simp -implicitDefEqProofs [runF, exs, ex, evb, evi, evc, evo, ev, evs, getE, callD, argsAt, outsAt, outsOf, IEs.owns, binD, cmpD, biD, addD, subD, leD, ltD, isiD, truD, negD, isL, eq_int, itemsD, bindT, len_dI, sz0, sz1, sz2, sz3, sz4, sz5, sz6, kt1, kt2, kt3, kt4, kt5, kt6, kt7, kt8, kt9, kt10, kt11, kt12, kt13, kt14, kt15, h2]))).trans ?_
  refine (exs_next (ex_set e1 (fun h => by cases h) (by simp))).trans ?_
  refine (exs_next (ex_set (d := .int (leastF ((restF ts.length j).map (at_ ts)) ((restF ts.length j).map (at_ ws)))) (env1 := [some (dI ts), some (dI ws), some (.int j), some (dI (restF ts.length j)), none, none]) ?_ (fun h => by cases h) (by simp))).trans ?_
  · show ev (CF T k) (.call 16 (.cons l_30_1 (.cons l_30_2 .nil))) [some (dI ts), some (dI ws), some (.int j), some (dI (restF ts.length j)), none, none] = _
    rw [ev, evs, e2]
    simp only [Res.bind_ok, evs]
    rw [e3]
    simp only [Res.bind_ok]
    simp -implicitDefEqProofs [runF, exs, ex, evb, evi, evc, evo, ev, evs, getE, callD, argsAt, outsAt, outsOf, IEs.owns, binD, cmpD, biD, addD, subD, leD, ltD, isiD, truD, negD, isL, eq_int, itemsD, bindT, len_dI, sz0, sz1, sz2, sz3, sz4, sz5, sz6, kt1, kt2, kt3, kt4, kt5, kt6, kt7, kt8, kt9, kt10, kt11, kt12, kt13, kt14, kt15, h4, l_30_1, l_30_2]
  · exact exs_ret (ex_ret (by simp -implicitDefEqProofs [runF, exs, ex, evb, evi, evc, evo, ev, evs, getE, callD, argsAt, outsAt, outsOf, IEs.owns, binD, cmpD, biD, addD, subD, leD, ltD, isiD, truD, negD, isL, eq_int, itemsD, bindT, len_dI, sz0, sz1, sz2, sz3, sz4, sz5, sz6, kt1, kt2, kt3, kt4, kt5, kt6, kt7, kt8, kt9, kt10, kt11, kt12, kt13, kt14, kt15, h3, withF]))
end LT
namespace LT
open PySem VI
/-! W5: what the law draws -/
theorem rnd_at {k : Nat} (hk : 2 ≤ k) : RndOk (CF T k) 32 := by
  obtain ⟨k, rfl⟩ : ∃ j, k = j + 1 := ⟨k - 1, by omega⟩
  exact fun m kk g bd hg h0 hb hk2 hm => random_ok (C := CF T k) (h := 31) (fun s i hs hi => by
    obtain ⟨k, rfl⟩ : ∃ j, k = j + 1 := ⟨k - 1, by omega⟩
    exact hash_ok (CF T k) hs hi) hg h0 hb hk2 hm
theorem gen_at {k : Nat} (hk : 2 ≤ k) {i : Nat} {ns : List Int} (hl : ns.length ≤ sizeLine) (hi : i < 1000) : ∃ g, CF T k 34 [.scr ns, .int i] = .ret g [] ∧ Gn (1000 * i) g := by
  obtain ⟨k, rfl⟩ : ∃ j, k = j + 1 := ⟨k - 1, by omega⟩
  obtain ⟨k, rfl⟩ : ∃ j, k = j + 1 := ⟨k - 1, by omega⟩
  exact gen_ok (C := CF T (k + 1)) (c := 33) (cell_ok (CF T k) hl) hi
theorem ints_of : ∀ {ys : List D} {P : Int → Prop}, (∀ y ∈ ys, ∃ i, y = .int i ∧ P i) → ∃ xs : List Int, ys = xs.map .int ∧ ∀ x ∈ xs, P x
  | [], _, _ => ⟨[], rfl, by simp⟩
  | y :: ys, P, h => by
    obtain ⟨i, rfl, hi⟩ := h y (List.mem_cons_self ..)
    obtain ⟨xs, rfl, hx⟩ := ints_of fun z hz => h z (List.mem_cons_of_mem _ hz)
    exact ⟨i :: xs, rfl, fun x hx' => by
      rcases List.mem_cons.mp hx' with rfl | q
      · exact hi
      · exact hx x q⟩
def M0 : Nat := 1000000
theorem m0 {m : Nat} (h : m < M0) : m < 2 ^ 38 := by unfold M0 at h; omega
/-- one of four -/
theorem idx4 {a b c d x : Int} (h0 : 0 ≤ x) (h1 : x < 4) : ∃ y, idxD (.lst [.int a, .int b, .int c, .int d]) (.int x) = some (.int y) ∧ (y = a ∨ y = b ∨ y = c ∨ y = d) := by
  have : x = 0 ∨ x = 1 ∨ x = 2 ∨ x = 3 := by omega
  rcases this with rfl | rfl | rfl | rfl
  · exact ⟨a, rfl, .inl rfl⟩
  · exact ⟨b, rfl, .inr (.inl rfl)⟩
  · exact ⟨c, rfl, .inr (.inr (.inl rfl))⟩
  · exact ⟨d, rfl, .inr (.inr (.inr rfl))⟩
theorem times_at {k : Nat} (hk : 3 ≤ k) {m : Nat} {g : D} {most : Int} (hg : Gn m g) (hm : m + 2000 < M0) (h1 : 1 ≤ most) (h2 : most ≤ 12) : ∃ (ts : List Int) (g' : D), CF T k 38 [g, .int most] = .ret (dI ts) [g'] ∧ 1 ≤ ts.length ∧ (ts.length : Int) ≤ most ∧ (∀ t ∈ ts, 1 ≤ t ∧ t ≤ 1000) ∧ Gn (m + 2000) g' := by
  obtain ⟨k, rfl⟩ : ∃ j, k = j + 1 := ⟨k - 1, by omega⟩
  obtain ⟨x, g1, e1, x0, x1, q1⟩ := rnd_at (k := k) (by omega) m 4 g most hg (by omega) (by omega) (by omega) (by have := m0 (m := m) (by omega); omega)
  obtain ⟨y, g2, e2, y0, y1, q2⟩ := rnd_at (k := k) (by omega) (m + 101) 3 g1 4 q1 (by omega) (by omega) (by omega) (m0 (by omega))
  obtain ⟨w, e3, hw⟩ := idx4 (a := 3) (b := 9) (c := 30) (d := 1000) y0 y1
  have hw0 : 1 ≤ w ∧ w ≤ 1000 := by omega
  obtain ⟨ys, g3, o3, e4, l4, y4, q4⟩ := lcD_draw (i := 4) (M := m + 2000) (mk := fun g o => [some g, some (.int most), some (.int (1 + x)), some (.int w), o]) (f := ev (CF T k) (.bin .Add (.int 1) (.call 32 (.cons (.own 0) (.cons (.var 3) .nil))))) (Y := fun d => ∃ i, d = .int i ∧ (1 ≤ i ∧ i ≤ 1000)) (fun g o x => by simp [wipeE, bindT]) (rangeD 0 (1 + x).toNat) 0 (m + 101 + 101) g2 none (sz12 (by rw [range_dI]; simp; omega)) q2 (by rw [range_dI]; simp; omega) (fun m' g' d hd hg' hm' => by
    obtain ⟨z, g4, e5, z0, z1, q5⟩ := rnd_at (k := k) (by omega) m' 10 g' w hg' (by omega) (by omega) (by omega) (m0 (by omega))
    exact ⟨.int (1 + z), g4, by simp -implicitDefEqProofs [runF, exs, ex, evb, evi, evc, evo, ev, evs, getE, callD, argsAt, outsAt, outsOf, IEs.owns, binD, cmpD, biD, addD, subD, leD, ltD, isiD, truD, negD, isL, eq_int, itemsD, bindT, len_dI, sz0, sz1, sz2, sz3, sz4, sz5, sz6, kt1, kt2, kt3, kt4, kt5, kt6, kt7, kt8, kt9, kt10, kt11, kt12, kt13, kt14, kt15, e5], ⟨1 + z, rfl, by omega⟩, q5⟩)
  obtain ⟨ts, rfl, ht⟩ := ints_of y4
  rw [List.length_map, range_dI] at l4
  simp only [List.length_map, List.length_range] at l4
  have r : rngOk (1 + x) = true := by
    have : 1 + x = (((1 + x).toNat : Nat) : Int) := by omega
    rw [this]
    exact rngOk_len (sz12 (by omega))
  refine ⟨ts, g3, ?_, by omega, by omega, ht, ?_⟩
  · have el : ev (CF T k) l_38_0 [some g2, some (.int most), some (.int (1 + x)), some (.int w), none] = .ok (dI ts) [some g3, some (.int most), some (.int (1 + x)), some (.int w), none] := by
      refine (ev_lc (env1 := [some g2, some (.int most), some (.int (1 + x)), some (.int w), none]) (ds := rangeD 0 (1 + x).toNat) (by simp -implicitDefEqProofs [runF, exs, ex, evb, evi, evc, evo, ev, evs, getE, callD, argsAt, outsAt, outsOf, IEs.owns, binD, cmpD, biD, addD, subD, leD, ltD, isiD, truD, negD, isL, eq_int, itemsD, bindT, len_dI, sz0, sz1, sz2, sz3, sz4, sz5, sz6, kt1, kt2, kt3, kt4, kt5, kt6, kt7, kt8, kt9, kt10, kt11, kt12, kt13, kt14, kt15, r]) e4).trans ?_
      simp [backE, getE]
    rw [cf_38]
    refine runF_ret (env := [some g3, some (.int most), some (.int (1 + x)), some (.int w), none]) ?_ rfl rfl rfl
    show exs (CF T k) f_38.body [some g, some (.int most), none, none, none] = _
    refine (exs_next (env1 := [some g2, some (.int most), some (.int (1 + x)), some (.int w), none]) ?_).trans (exs_ret (ex_ret el))
    simp -implicitDefEqProofs [runF, exs, ex, evb, evi, evc, evo, ev, evs, getE, callD, argsAt, outsAt, outsOf, IEs.owns, binD, cmpD, biD, addD, subD, leD, ltD, isiD, truD, negD, isL, eq_int, itemsD, bindT, len_dI, sz0, sz1, sz2, sz3, sz4, sz5, sz6, kt1, kt2, kt3, kt4, kt5, kt6, kt7, kt8, kt9, kt10, kt11, kt12, kt13, kt14, kt15, e1, e2, e3]
  · obtain ⟨a, b, c, r1, r2, r3, r4, r5, r6⟩ := q4
    exact ⟨a, b, c, r1, r2, r3, r4, r5, by
      rw [range_dI] at r6
      simp only [List.length_map, List.length_range] at r6
      omega⟩
theorem weights_at {k : Nat} (hk : 3 ≤ k) {m n : Nat} {g : D} {least : Int} (hg : Gn m g) (hm : m + 2000 < M0) (hn : n ≤ 12) (h1 : 0 ≤ least) (h2 : least ≤ 1) : ∃ (ws : List Int) (g' : D), CF T k 39 [g, .int n, .int least] = .ret (dI ws) [g'] ∧ ws.length = n ∧ (∀ w ∈ ws, least ≤ w ∧ w ≤ 1000) ∧ Gn (m + 2000) g' := by
  obtain ⟨k, rfl⟩ : ∃ j, k = j + 1 := ⟨k - 1, by omega⟩
  obtain ⟨y, g2, e2, y0, y1, q2⟩ := rnd_at (k := k) (by omega) m 3 g 4 hg (by omega) (by omega) (by omega) (m0 (by omega))
  obtain ⟨w, e3, hw⟩ := idx4 (a := 2) (b := 9) (c := 30) (d := 900) y0 y1
  have hw0 : 1 ≤ w ∧ w ≤ 900 := by omega
  obtain ⟨ys, g3, o3, e4, l4, y4, q4⟩ := lcD_draw (i := 4) (M := m + 2000) (mk := fun g o => [some g, some (.int n), some (.int least), some (.int w), o]) (f := ev (CF T k) (.bin .Add (.var 2) (.call 32 (.cons (.own 0) (.cons (.var 3) .nil))))) (Y := fun d => ∃ i, d = .int i ∧ (least ≤ i ∧ i ≤ 1000)) (fun g o x => by simp [wipeE, bindT]) (rangeD 0 n) 0 (m + 101) g2 none (sz12 (by rw [range_dI]; simp; omega)) q2 (by rw [range_dI]; simp; omega) (fun m' g' d hd hg' hm' => by
    obtain ⟨z, g4, e5, z0, z1, q5⟩ := rnd_at (k := k) (by omega) m' 10 g' w hg' (by omega) (by omega) (by omega) (m0 (by omega))
    exact ⟨.int (least + z), g4, by simp -implicitDefEqProofs [runF, exs, ex, evb, evi, evc, evo, ev, evs, getE, callD, argsAt, outsAt, outsOf, IEs.owns, binD, cmpD, biD, addD, subD, leD, ltD, isiD, truD, negD, isL, eq_int, itemsD, bindT, len_dI, sz0, sz1, sz2, sz3, sz4, sz5, sz6, kt1, kt2, kt3, kt4, kt5, kt6, kt7, kt8, kt9, kt10, kt11, kt12, kt13, kt14, kt15, e5], ⟨least + z, rfl, by omega⟩, q5⟩)
  obtain ⟨ws, rfl, ht⟩ := ints_of y4
  rw [List.length_map, range_dI] at l4
  simp only [List.length_map, List.length_range] at l4
  have r : rngOk (n : Int) = true := rngOk_len (sz12 (by omega))
  refine ⟨ws, g3, ?_, l4, ht, ?_⟩
  · have el : ev (CF T k) l_39_0 [some g2, some (.int n), some (.int least), some (.int w), none] = .ok (dI ws) [some g3, some (.int n), some (.int least), some (.int w), none] := by
      refine (ev_lc (env1 := [some g2, some (.int n), some (.int least), some (.int w), none]) (ds := rangeD 0 n) (by simp -implicitDefEqProofs [runF, exs, ex, evb, evi, evc, evo, ev, evs, getE, callD, argsAt, outsAt, outsOf, IEs.owns, binD, cmpD, biD, addD, subD, leD, ltD, isiD, truD, negD, isL, eq_int, itemsD, bindT, len_dI, sz0, sz1, sz2, sz3, sz4, sz5, sz6, kt1, kt2, kt3, kt4, kt5, kt6, kt7, kt8, kt9, kt10, kt11, kt12, kt13, kt14, kt15, r]) e4).trans ?_
      simp [backE, getE]
    rw [cf_39]
    refine runF_ret (env := [some g3, some (.int n), some (.int least), some (.int w), none]) ?_ rfl rfl rfl
    show exs (CF T k) f_39.body [some g, some (.int n), some (.int least), none, none] = _
    refine (exs_next (env1 := [some g2, some (.int n), some (.int least), some (.int w), none]) ?_).trans (exs_ret (ex_ret el))
    simp -implicitDefEqProofs [runF, exs, ex, evb, evi, evc, evo, ev, evs, getE, callD, argsAt, outsAt, outsOf, IEs.owns, binD, cmpD, biD, addD, subD, leD, ltD, isiD, truD, negD, isL, eq_int, itemsD, bindT, len_dI, sz0, sz1, sz2, sz3, sz4, sz5, sz6, kt1, kt2, kt3, kt4, kt5, kt6, kt7, kt8, kt9, kt10, kt11, kt12, kt13, kt14, kt15, e2, e3]
  · obtain ⟨a, b, c, r1, r2, r3, r4, r5, r6⟩ := q4
    exact ⟨a, b, c, r1, r2, r3, r4, r5, by
      rw [range_dI] at r6
      simp only [List.length_map, List.length_range] at r6
      omega⟩
end LT
namespace LT
open PySem VI
/-! W6: the law's own helpers -/
theorem order_at {k : Nat} (hk : 3 ≤ k) {m : Nat} {g : D} {xs : List Int} (hg : Gn m g) (hm : m + 2000 < M0) (hl : xs.length ≤ 12) : ∃ (ys : List Int) (g' : D), CF T k 35 [g, dI xs] = .ret (dI ys) [g'] ∧ ys.Perm xs ∧ Gn (m + 2000) g' := by
  obtain ⟨k, rfl⟩ : ∃ j, k = j + 1 := ⟨k - 1, by omega⟩
  have turn : ∀ (n m : Nat) (g : D) (left found : List Int), left.length = n → n ≤ 12 → found.length + n ≤ 100 → Gn m g → m + 101 * n < M0 → ∃ (ys : List Int) (g' : D), whD (evb (CF T k) c_35_0) (exs (CF T k) w_35_1) [some g, some (dI xs), some (dI left), some (dI found)] = .next [some g', some (dI xs), some (dI []), some (dI (found ++ ys))] ∧ ys.Perm left ∧ Gn (m + 101 * n) g' := by
    intro n
    induction n with
    | zero =>
      intro m g left found h0 _ _ hg _
      have : left = [] := List.length_eq_zero_iff.mp h0
      subst this
      refine ⟨[], g, ?_, List.Perm.refl _, by simpa using hg⟩
      have hc : evb (CF T k) c_35_0 [some g, some (dI xs), some (dI []), some (dI found)] = .ok false [some g, some (dI xs), some (dI []), some (dI found)] := by
        have := eqD_nil_ints (xs := [])
        simp -implicitDefEqProofs [runF, exs, ex, evb, evi, evc, evo, ev, evs, getE, callD, argsAt, outsAt, outsOf, IEs.owns, binD, cmpD, biD, addD, subD, leD, ltD, isiD, truD, negD, isL, eq_int, itemsD, bindT, len_dI, sz0, sz1, sz2, sz3, sz4, sz5, sz6, kt1, kt2, kt3, kt4, kt5, kt6, kt7, kt8, kt9, kt10, kt11, kt12, kt13, kt14, kt15, c_35_0, this, exck, scalar]
      rw [whD_eq, hc]
      simp
    | succ n ih =>
      intro m g left found h0 h12 hf hg hM
      have hc : evb (CF T k) c_35_0 [some g, some (dI xs), some (dI left), some (dI found)] = .ok true [some g, some (dI xs), some (dI left), some (dI found)] := by
        have : eqD (dI left) (.lst []) = some false := by
          rw [eqD_nil_ints]
          cases left with
          | nil => simp at h0
          | cons _ _ => rfl
        simp -implicitDefEqProofs [runF, exs, ex, evb, evi, evc, evo, ev, evs, getE, callD, argsAt, outsAt, outsOf, IEs.owns, binD, cmpD, biD, addD, subD, leD, ltD, isiD, truD, negD, isL, eq_int, itemsD, bindT, len_dI, sz0, sz1, sz2, sz3, sz4, sz5, sz6, kt1, kt2, kt3, kt4, kt5, kt6, kt7, kt8, kt9, kt10, kt11, kt12, kt13, kt14, kt15, c_35_0, this, exck, scalar]
      obtain ⟨x, g1, e1, x0, x1, q1⟩ := rnd_at (k := k) (by omega) m 5 g left.length hg (by omega) (by omega) (by omega) (m0 (by omega))
      obtain ⟨j, rfl⟩ : ∃ j : Nat, x = j := ⟨x.toNat, by omega⟩
      have hj : j < left.length := by omega
      have ep : ev (CF T k) (.pop 2 (.cons (.call 32 (.cons (.own 0) (.cons (.scal (.bi .len (.cons (.var 2) .nil))) .nil))) .nil)) [some g, some (dI xs), some (dI left), some (dI found)] = .ok (.int left[j]) [some g1, some (dI xs), some (dI (left.eraseIdx j)), some (dI found)] := by
        have := ev_popI (C := CF T k) (i := 2) (es := .cons (.call 32 (.cons (.own 0) (.cons (.scal (.bi .len (.cons (.var 2) .nil))) .nil))) .nil) (env := [some g, some (dI xs), some (dI left), some (dI found)]) (env1 := [some g1, some (dI xs), some (dI left), some (dI found)]) (d0 := dI left) (xs := left.map D.int) (z := j) (j := j) rfl (by simp -implicitDefEqProofs [runF, exs, ex, evb, evi, evc, evo, ev, evs, getE, callD, argsAt, outsAt, outsOf, IEs.owns, binD, cmpD, biD, addD, subD, leD, ltD, isiD, truD, negD, isL, eq_int, itemsD, bindT, len_dI, sz0, sz1, sz2, sz3, sz4, sz5, sz6, kt1, kt2, kt3, kt4, kt5, kt6, kt7, kt8, kt9, kt10, kt11, kt12, kt13, kt14, kt15, e1, exck, scalar]) rfl rfl (by rw [List.length_map]; exact hj) (by rw [List.length_map]; omega)
        rw [this]
        simp [er_map]
      have hbody : exs (CF T k) w_35_1 [some g, some (dI xs), some (dI left), some (dI found)] = .next [some g1, some (dI xs), some (dI (left.eraseIdx j)), some (dI (found ++ [left[j]]))] := by
        unfold w_35_1
        refine (exs_next (ex_app (d0 := dI found) (xs := found.map D.int) rfl ep rfl (by rw [List.length_map]; exact Nat.lt_of_lt_of_le (by omega : found.length < 1000) (sz12 (Nat.le_refl _))))).trans ?_
        have e9 : found.map D.int ++ [D.int left[j]] = (found ++ [left[j]]).map D.int := by simp
        rw [e9]
        exact exs_nil
      obtain ⟨ys, g2, e2, p2, q2⟩ := ih (m + 101) g1 (left.eraseIdx j) (found ++ [left[j]]) (by rw [List.length_eraseIdx_of_lt hj]; omega) (by omega) (by simp only [List.length_append, List.length_cons, List.length_nil]; omega) q1 (by omega)
      refine ⟨left[j] :: ys, g2, ?_, (p2.cons _).trans (er_perm left j hj), ?_⟩
      · rw [whD_eq, hc]
        simp only
        rw [hbody]
        simp only
        rw [e2, List.append_assoc]
        rfl
      · rw [Nat.mul_add, Nat.mul_one, Nat.add_comm (101 * n), ← Nat.add_assoc]; exact q2
  obtain ⟨ys, g', e, p, q⟩ := turn xs.length m g xs [] rfl hl (by simp; omega) hg (by omega)
  refine ⟨ys, g', ?_, p, ?_⟩
  · rw [cf_35]
    refine runF_ret (env := [some g', some (dI xs), some (dI []), some (dI ys)]) ?_ rfl rfl rfl
    show exs (CF T k) f_35.body [some g, some (dI xs), none, none] = _
    refine (exs_next (env1 := [some g, some (dI xs), some (dI xs), some (dI [])]) (by simp -implicitDefEqProofs [runF, exs, ex, evb, evi, evc, evo, ev, evs, getE, callD, argsAt, outsAt, outsOf, IEs.owns, binD, cmpD, biD, addD, subD, leD, ltD, isiD, truD, negD, isL, eq_int, itemsD, bindT, len_dI, sz0, sz1, sz2, sz3, sz4, sz5, sz6, kt1, kt2, kt3, kt4, kt5, kt6, kt7, kt8, kt9, kt10, kt11, kt12, kt13, kt14, kt15, ])).trans ?_
    refine (exs_next (ex_whl.trans e)).trans ?_
    refine (exs_next ex_frz).trans ?_
    exact exs_ret (ex_ret (by simp -implicitDefEqProofs [runF, exs, ex, evb, evi, evc, evo, ev, evs, getE, callD, argsAt, outsAt, outsOf, IEs.owns, binD, cmpD, biD, addD, subD, leD, ltD, isiD, truD, negD, isL, eq_int, itemsD, bindT, len_dI, sz0, sz1, sz2, sz3, sz4, sz5, sz6, kt1, kt2, kt3, kt4, kt5, kt6, kt7, kt8, kt9, kt10, kt11, kt12, kt13, kt14, kt15, ]))
  · obtain ⟨a, b, c, r1, r2, r3, r4, r5, r6⟩ := q
    exact ⟨a, b, c, r1, r2, r3, r4, r5, by omega⟩
/-- what is the same -/
theorem exact_at : ∀ (n : Nat) {k : Nat} (d : D), n + 1 ≤ k → Pl n d → CF T k 36 [d, d] = .ret (.bl true) [] := by
  intro n
  induction n with
  | zero =>
    intro k d hk h
    obtain ⟨k, rfl⟩ : ∃ j, k = j + 1 := ⟨k - 1, by omega⟩
    rw [cf_36]
    cases h with
    | int _ i => simp -implicitDefEqProofs [runF, exs, ex, evb, evi, evc, evo, ev, evs, getE, callD, argsAt, outsAt, outsOf, IEs.owns, binD, cmpD, biD, addD, subD, leD, ltD, isiD, truD, negD, isL, eq_int, itemsD, bindT, len_dI, sz0, sz1, sz2, sz3, sz4, sz5, sz6, kt1, kt2, kt3, kt4, kt5, kt6, kt7, kt8, kt9, kt10, kt11, kt12, kt13, kt14, kt15, f_36, isisD, tysOf, anyIsi, eqn]
    | bl _ b => simp -implicitDefEqProofs [runF, exs, ex, evb, evi, evc, evo, ev, evs, getE, callD, argsAt, outsAt, outsOf, IEs.owns, binD, cmpD, biD, addD, subD, leD, ltD, isiD, truD, negD, isL, eq_int, itemsD, bindT, len_dI, sz0, sz1, sz2, sz3, sz4, sz5, sz6, kt1, kt2, kt3, kt4, kt5, kt6, kt7, kt8, kt9, kt10, kt11, kt12, kt13, kt14, kt15, f_36, isisD, tysOf, anyIsi, eq_bl]
  | succ n ih =>
    intro k d hk h
    obtain ⟨k, rfl⟩ : ∃ j, k = j + 1 := ⟨k - 1, by omega⟩
    cases h with
    | int _ i =>
      rw [cf_36]
      simp -implicitDefEqProofs [runF, exs, ex, evb, evi, evc, evo, ev, evs, getE, callD, argsAt, outsAt, outsOf, IEs.owns, binD, cmpD, biD, addD, subD, leD, ltD, isiD, truD, negD, isL, eq_int, itemsD, bindT, len_dI, sz0, sz1, sz2, sz3, sz4, sz5, sz6, kt1, kt2, kt3, kt4, kt5, kt6, kt7, kt8, kt9, kt10, kt11, kt12, kt13, kt14, kt15, f_36, isisD, tysOf, anyIsi, eqn]
    | bl _ b =>
      rw [cf_36]
      simp -implicitDefEqProofs [runF, exs, ex, evb, evi, evc, evo, ev, evs, getE, callD, argsAt, outsAt, outsOf, IEs.owns, binD, cmpD, biD, addD, subD, leD, ltD, isiD, truD, negD, isL, eq_int, itemsD, bindT, len_dI, sz0, sz1, sz2, sz3, sz4, sz5, sz6, kt1, kt2, kt3, kt4, kt5, kt6, kt7, kt8, kt9, kt10, kt11, kt12, kt13, kt14, kt15, f_36, isisD, tysOf, anyIsi, eq_bl]
    | lst _ ds hd hl =>
      have e1 : ev (CF T k) l_36_0 [some (.lst ds), some (.lst ds), none, none] = .ok (.lst ((List.range ds.length).map fun _ => D.bl true)) [some (.lst ds), some (.lst ds), none, none] := by
        exact ev_lcm2 (α := Nat) (C := CF T k) (i := 2) (j := 3) (it := .enum (.var 1)) (e := .call 36 (.cons (.idx (.var 0) (.var 2)) (.cons (.var 3) .nil))) (env := [some (.lst ds), some (.lst ds), none, none]) (u := fun (i : Nat) => .int i) (v := fun i => ds.getD i .non) (g := fun _ => .bl true) (List.range ds.length) (by decide) (by simp) (by simp) (by
          simp -implicitDefEqProofs [runF, exs, ex, evb, evi, evc, evo, ev, evs, getE, callD, argsAt, outsAt, outsOf, IEs.owns, binD, cmpD, biD, addD, subD, leD, ltD, isiD, truD, negD, isL, eq_int, itemsD, bindT, len_dI, sz0, sz1, sz2, sz3, sz4, sz5, sz6, kt1, kt2, kt3, kt4, kt5, kt6, kt7, kt8, kt9, kt10, kt11, kt12, kt13, kt14, kt15, ]
          rw [enum_D]
          simp) (sz_le (by simpa using hl)) (fun i hi => by
          have hi : i < ds.length := by simpa using hi
          have a1 : idxD (.lst ds) (.int i) = some (ds.getD i .non) := by
            show L2.atI ds i = _
            rw [atI_nat]
            simp [hi]
          have a2 := ih (k := k) (ds.getD i .non) (by omega) (by
            have : ds.getD i .non ∈ ds := by simp [hi]
            exact hd _ this)
          simp only [List.getD_eq_getElem?_getD] at a1 a2
          simp -implicitDefEqProofs [runF, exs, ex, evb, evi, evc, evo, ev, evs, getE, callD, argsAt, outsAt, outsOf, IEs.owns, binD, cmpD, biD, addD, subD, leD, ltD, isiD, truD, negD, isL, eq_int, itemsD, bindT, len_dI, sz0, sz1, sz2, sz3, sz4, sz5, sz6, kt1, kt2, kt3, kt4, kt5, kt6, kt7, kt8, kt9, kt10, kt11, kt12, kt13, kt14, kt15, a1, a2])
      have e2 := ev_bi1 (b := .all) e1 (all_D _)
      rw [cf_36]
      refine runF_ret (env := [some (.lst ds), some (.lst ds), none, none]) ?_ rfl rfl rfl
      show exs (CF T k) f_36.body [some (.lst ds), some (.lst ds), none, none] = _
      refine exs_ret ((ex_if (t := true) (env1 := [some (.lst ds), some (.lst ds), none, none]) (by simp -implicitDefEqProofs [runF, exs, ex, evb, evi, evc, evo, ev, evs, getE, callD, argsAt, outsAt, outsOf, IEs.owns, binD, cmpD, biD, addD, subD, leD, ltD, isiD, truD, negD, isL, eq_int, itemsD, bindT, len_dI, sz0, sz1, sz2, sz3, sz4, sz5, sz6, kt1, kt2, kt3, kt4, kt5, kt6, kt7, kt8, kt9, kt10, kt11, kt12, kt13, kt14, kt15, isisD, tysOf, anyIsi])).trans ?_)
      rw [if_pos rfl]
      have h1 : ex (CF T k) (.ifs (.or (.cmp .NotEq (.bi .isi (.cons (.var 0) (.cons (.ty "list") .nil))) (.bi .isi (.cons (.var 1) (.cons (.ty "list") .nil)))) (.cmp .NotEq (.bi .isi (.cons (.var 0) (.cons (.ty "tuple") .nil))) (.bi .isi (.cons (.var 1) (.cons (.ty "tuple") .nil))))) (.cons (.ret (.bl false)) .nil) .nil) [some (.lst ds), some (.lst ds), none, none] = .next [some (.lst ds), some (.lst ds), none, none] := by
        rw [ex_if (t := false) (env1 := [some (.lst ds), some (.lst ds), none, none]) (by simp -implicitDefEqProofs [runF, exs, ex, evb, evi, evc, evo, ev, evs, getE, callD, argsAt, outsAt, outsOf, IEs.owns, binD, cmpD, biD, addD, subD, leD, ltD, isiD, truD, negD, isL, eq_int, itemsD, bindT, len_dI, sz0, sz1, sz2, sz3, sz4, sz5, sz6, kt1, kt2, kt3, kt4, kt5, kt6, kt7, kt8, kt9, kt10, kt11, kt12, kt13, kt14, kt15, eq_bl])]
        rw [if_neg (by simp)]
        exact exs_nil
      refine (exs_next h1).trans (exs_ret (ex_ret ?_))
      rw [ev_and (env1 := [some (.lst ds), some (.lst ds), none, none]) (by simp -implicitDefEqProofs [runF, exs, ex, evb, evi, evc, evo, ev, evs, getE, callD, argsAt, outsAt, outsOf, IEs.owns, binD, cmpD, biD, addD, subD, leD, ltD, isiD, truD, negD, isL, eq_int, itemsD, bindT, len_dI, sz0, sz1, sz2, sz3, sz4, sz5, sz6, kt1, kt2, kt3, kt4, kt5, kt6, kt7, kt8, kt9, kt10, kt11, kt12, kt13, kt14, kt15, lenD, eqn])]
      exact e2
/-- a copy -/
theorem copied_int {k : Nat} (hk : 1 ≤ k) (i : Int) : CF T k 37 [.int i] = .ret (.int i) [] := by
  obtain ⟨k, rfl⟩ : ∃ j, k = j + 1 := ⟨k - 1, by omega⟩
  rw [cf_37]
  simp -implicitDefEqProofs [runF, exs, ex, evb, evi, evc, evo, ev, evs, getE, callD, argsAt, outsAt, outsOf, IEs.owns, binD, cmpD, biD, addD, subD, leD, ltD, isiD, truD, negD, isL, eq_int, itemsD, bindT, len_dI, sz0, sz1, sz2, sz3, sz4, sz5, sz6, kt1, kt2, kt3, kt4, kt5, kt6, kt7, kt8, kt9, kt10, kt11, kt12, kt13, kt14, kt15, f_37]
theorem copied_lst {k : Nat} {ds : List D} (hl : ds.length ≤ 100000) (h : ∀ d ∈ ds, CF T k 37 [d] = .ret d []) : CF T (k + 1) 37 [.lst ds] = .ret (.lst ds) [] := by
  have e1 : ev (CF T k) l_37_0 [some (.lst ds), none] = .ok (.lst ds) [some (.lst ds), none] := by
    have := ev_lcm (α := D) (C := CF T k) (i := 1) (it := .val (.var 0)) (e := .call 37 (.cons (.var 1) .nil)) (env := [some (.lst ds), none]) (g := fun d => d) (inj := fun d => d) ds (by simp) (by simp -implicitDefEqProofs [runF, exs, ex, evb, evi, evc, evo, ev, evs, getE, callD, argsAt, outsAt, outsOf, IEs.owns, binD, cmpD, biD, addD, subD, leD, ltD, isiD, truD, negD, isL, eq_int, itemsD, bindT, len_dI, sz0, sz1, sz2, sz3, sz4, sz5, sz6, kt1, kt2, kt3, kt4, kt5, kt6, kt7, kt8, kt9, kt10, kt11, kt12, kt13, kt14, kt15, ]) (sz_le hl) (fun x hx => by
      have := h x hx
      simp -implicitDefEqProofs [runF, exs, ex, evb, evi, evc, evo, ev, evs, getE, callD, argsAt, outsAt, outsOf, IEs.owns, binD, cmpD, biD, addD, subD, leD, ltD, isiD, truD, negD, isL, eq_int, itemsD, bindT, len_dI, sz0, sz1, sz2, sz3, sz4, sz5, sz6, kt1, kt2, kt3, kt4, kt5, kt6, kt7, kt8, kt9, kt10, kt11, kt12, kt13, kt14, kt15, this])
    rw [List.map_id'] at this
    exact this
  rw [cf_37]
  refine runF_ret (env := [some (.lst ds), none]) ?_ rfl rfl rfl
  show exs (CF T k) f_37.body [some (.lst ds), none] = _
  refine exs_ret ((ex_if (t := true) (env1 := [some (.lst ds), none]) (by simp -implicitDefEqProofs [runF, exs, ex, evb, evi, evc, evo, ev, evs, getE, callD, argsAt, outsAt, outsOf, IEs.owns, binD, cmpD, biD, addD, subD, leD, ltD, isiD, truD, negD, isL, eq_int, itemsD, bindT, len_dI, sz0, sz1, sz2, sz3, sz4, sz5, sz6, kt1, kt2, kt3, kt4, kt5, kt6, kt7, kt8, kt9, kt10, kt11, kt12, kt13, kt14, kt15, ])).trans ?_)
  rw [if_pos rfl]
  exact exs_ret (ex_ret e1)
theorem copied_at {k : Nat} (hk : 3 ≤ k) {ts ws : List Int} (J : Jobs ts ws) : CF T k 37 [.lst [dI ts, dI ws]] = .ret (.lst [dI ts, dI ws]) [] := by
  obtain ⟨k, rfl⟩ : ∃ j, k = j + 1 := ⟨k - 1, by omega⟩
  refine copied_lst (by simp) fun d hd => ?_
  have cpI : ∀ xs : List Int, xs.length ≤ 12 → CF T k 37 [dI xs] = .ret (dI xs) [] := fun xs hx => by
    obtain ⟨k, rfl⟩ : ∃ j, k = j + 1 := ⟨k - 1, by omega⟩
    refine copied_lst (by rw [List.length_map]; omega) fun d hd => ?_
    obtain ⟨i, _, rfl⟩ := List.mem_map.mp hd
    exact copied_int (by omega) i
  have h2 := J.l2
  have hw := J.lw
  have : d = dI ts ∨ d = dI ws := by simpa using hd
  rcases this with rfl | rfl
  · exact cpI _ h2
  · exact cpI _ (by omega)
/-! pairs that stand wrongly -/
theorem inv_sum (g : Int → Int → Int) : ∀ (r : List Int), inv g r = ((List.range r.length).map fun (i : Nat) => (r.drop (i + 1)).countP fun b => decide (0 < g (at_ r i) b)).sum
  | [] => rfl
  | a :: r => by
    rw [inv, inv_sum g r, List.length_cons, List.range_succ_eq_map, List.map_cons, List.sum_cons, List.map_map]
    rfl
theorem wrong_pairs_at {k : Nat} (hk : 1 ≤ k) {ts ws r : List Int} (J : Jobs ts ws) (h : IsRow ts.length r) : CF T k 40 [dI ts, dI ws, dI r] = .ret (.int (inv (gn ts ws) r : Nat)) [] := by
  obtain ⟨k, rfl⟩ : ∃ j, k = j + 1 := ⟨k - 1, by omega⟩
  have hn := J.l2
  have lw := J.lw
  have hl := h.len
  obtain ⟨o', e, _⟩ := forD_runG (t := .tp [4, 5]) (b := exs (CF T k) w_40_1) (mk := fun (s : Nat) (o : Option D × Option D) => [some (dI ts), some (dI ws), some (dI r), some (.int (s : Nat)), o.1, o.2, none]) (inj := fun (i : Nat) => D.tup [.int ((0 + i : Nat) : Int), .int (r.getD i 0)]) (f := fun (s : Nat) (i : Nat) => s + (r.drop (i + 1)).countP fun b => decide (0 < gn ts ws (at_ r i) b)) (P := fun _ _ => True) (List.range r.length) 0 (fun i s x o hx _ => by
    have hx : x < r.length := by simpa using hx
    refine ⟨_, (some (.int x), some (.int (at_ r x))), by simp [bindT, at_nat]; rfl, ?_, trivial⟩
    have e5 : r[x]?.getD 0 = at_ r x := by simp [at_nat]
    rw [e5]
    have b1 := h.at_ hx
    have c1 : slD (dI r) (some ((x : Int) + 1)) none = some (dI (r.drop (x + 1))) := by
      show some (D.lst (cutL (r.map D.int) (some ((x : Int) + 1)) none)) = _
      rw [show (x : Int) + 1 = ((x + 1 : Nat) : Int) from by omega, cutL_drop _ (by rw [List.length_map]; omega), ← List.map_drop]
    have el : ev (CF T k) l_40_0 [some (dI ts), some (dI ws), some (dI r), some (.int s), some (.int x), some (.int (at_ r x)), none] = .ok (dI ((r.drop (x + 1)).filter fun b => decide (0 < gn ts ws (at_ r x) b))) [some (dI ts), some (dI ws), some (dI r), some (.int s), some (.int x), some (.int (at_ r x)), none] := by
      exact ev_lc1 (α := Int) (C := CF T k) (i := 6) (it := .val (.sl (.var 2) (.some (.bin .Add (.var 4) (.int 1))) .none)) (c := .some (.cmp .Gt (.bin .Mult (.idx (.var 1) (.var 6)) (.idx (.var 0) (.var 5))) (.bin .Mult (.idx (.var 1) (.var 5)) (.idx (.var 0) (.var 6))))) (e := .var 6) (env := [some (dI ts), some (dI ws), some (dI r), some (.int s), some (.int x), some (.int (at_ r x)), none]) (p := fun b => decide (0 < gn ts ws (at_ r x) b)) (g := .int) (inj := .int) (r.drop (x + 1)) (by simp) (by simp -implicitDefEqProofs [runF, exs, ex, evb, evi, evc, evo, ev, evs, getE, callD, argsAt, outsAt, outsOf, IEs.owns, binD, cmpD, biD, addD, subD, leD, ltD, isiD, truD, negD, isL, eq_int, itemsD, bindT, len_dI, sz0, sz1, sz2, sz3, sz4, sz5, sz6, kt1, kt2, kt3, kt4, kt5, kt6, kt7, kt8, kt9, kt10, kt11, kt12, kt13, kt14, kt15, c1]) (sz12 (by rw [List.length_drop]; omega)) (fun y hy => by
        obtain ⟨y0, y1⟩ := h.rg y (List.mem_of_mem_drop hy)
        have a1 := idx_at (xs := ts) y0 y1
        have a2 := idx_at (xs := ws) y0 (by rw [lw]; exact y1)
        have a3 := idx_at (xs := ts) b1.1 b1.2
        have a4 := idx_at (xs := ws) b1.1 (by rw [lw]; exact b1.2)
        obtain ⟨t1, t2⟩ := J.ti y0 y1
        obtain ⟨t3, t4⟩ := J.ti b1.1 b1.2
        obtain ⟨w1, w2⟩ := J.wi y0 y1
        obtain ⟨w3, w4⟩ := J.wi b1.1 b1.2
        have m1 := mul_sm (x := at_ ws y) (y := at_ ts (at_ r x)) (sm_of (by omega) (by omega)) (sm_of (by omega) (by omega))
        have m2 := mul_sm (x := at_ ws (at_ r x)) (y := at_ ts y) (sm_of (by omega) (by omega)) (sm_of (by omega) (by omega))
        have q : (0 < gn ts ws (at_ r x) y) ↔ at_ ws (at_ r x) * at_ ts y < at_ ws y * at_ ts (at_ r x) := by unfold gn; omega
        simp -implicitDefEqProofs [runF, exs, ex, evb, evi, evc, evo, ev, evs, getE, callD, argsAt, outsAt, outsOf, IEs.owns, binD, cmpD, biD, addD, subD, leD, ltD, isiD, truD, negD, isL, eq_int, itemsD, bindT, len_dI, sz0, sz1, sz2, sz3, sz4, sz5, sz6, kt1, kt2, kt3, kt4, kt5, kt6, kt7, kt8, kt9, kt10, kt11, kt12, kt13, kt14, kt15, a1, a2, a3, a4, m1, m2, q]) (fun y hy _ => by simp -implicitDefEqProofs [runF, exs, ex, evb, evi, evc, evo, ev, evs, getE, callD, argsAt, outsAt, outsOf, IEs.owns, binD, cmpD, biD, addD, subD, leD, ltD, isiD, truD, negD, isL, eq_int, itemsD, bindT, len_dI, sz0, sz1, sz2, sz3, sz4, sz5, sz6, kt1, kt2, kt3, kt4, kt5, kt6, kt7, kt8, kt9, kt10, kt11, kt12, kt13, kt14, kt15, ])
    unfold w_40_1
    have e6 := ev_bi1 (b := .len) el (len_dI _)
    refine (exs_next (ex_set (ev_bin (x := .int s) (env1 := [some (dI ts), some (dI ws), some (dI r), some (.int s), some (.int x), some (.int (at_ r x)), none]) (by simp -implicitDefEqProofs [runF, exs, ex, evb, evi, evc, evo, ev, evs, getE, callD, argsAt, outsAt, outsOf, IEs.owns, binD, cmpD, biD, addD, subD, leD, ltD, isiD, truD, negD, isL, eq_int, itemsD, bindT, len_dI, sz0, sz1, sz2, sz3, sz4, sz5, sz6, kt1, kt2, kt3, kt4, kt5, kt6, kt7, kt8, kt9, kt10, kt11, kt12, kt13, kt14, kt15, ]) (by simpa using e6) rfl) (fun h => by cases h) (by simp))).trans ?_
    rw [exs_nil, List.countP_eq_length_filter]
    simp) 0 (none, none) trivial
  have hf : ∀ (l : List Nat) (s : Nat) (f : Nat → Nat), l.foldl (fun s i => s + f i) s = s + (l.map f).sum := fun l => by
    induction l with
    | nil => intro s f; simp
    | cons a l ih => intro s f; rw [List.foldl_cons, ih, List.map_cons, List.sum_cons, Nat.add_assoc]
  rw [hf, ← inv_sum, Nat.zero_add] at e
  rw [cf_40]
  refine runF_ret (env := [some (dI ts), some (dI ws), some (dI r), some (.int (inv (gn ts ws) r : Nat)), o'.1, o'.2, none]) ?_ rfl rfl rfl
  show exs (CF T k) f_40.body [some (dI ts), some (dI ws), some (dI r), none, none, none, none] = _
  refine (exs_next (ex_set (d := .int 0) (env1 := [some (dI ts), some (dI ws), some (dI r), none, none, none, none]) (by simp -implicitDefEqProofs [runF, exs, ex, evb, evi, evc, evo, ev, evs, getE, callD, argsAt, outsAt, outsOf, IEs.owns, binD, cmpD, biD, addD, subD, leD, ltD, isiD, truD, negD, isL, eq_int, itemsD, bindT, len_dI, sz0, sz1, sz2, sz3, sz4, sz5, sz6, kt1, kt2, kt3, kt4, kt5, kt6, kt7, kt8, kt9, kt10, kt11, kt12, kt13, kt14, kt15, ]) (fun h => by cases h) (by simp))).trans ?_
  refine (exs_next ((ex_for (ds := (List.range r.length).map fun (i : Nat) => D.tup [.int ((0 + i : Nat) : Int), .int (r.getD i 0)]) (env1 := [some (dI ts), some (dI ws), some (dI r), some (.int 0), none, none, none]) (by
    simp -implicitDefEqProofs [runF, exs, ex, evb, evi, evc, evo, ev, evs, getE, callD, argsAt, outsAt, outsOf, IEs.owns, binD, cmpD, biD, addD, subD, leD, ltD, isiD, truD, negD, isL, eq_int, itemsD, bindT, len_dI, sz0, sz1, sz2, sz3, sz4, sz5, sz6, kt1, kt2, kt3, kt4, kt5, kt6, kt7, kt8, kt9, kt10, kt11, kt12, kt13, kt14, kt15, ]
    rw [enum_dI]
    simp)).trans e)).trans ?_
  exact exs_ret (ex_ret (by simp -implicitDefEqProofs [runF, exs, ex, evb, evi, evc, evo, ev, evs, getE, callD, argsAt, outsAt, outsOf, IEs.owns, binD, cmpD, biD, addD, subD, leD, ltD, isiD, truD, negD, isL, eq_int, itemsD, bindT, len_dI, sz0, sz1, sz2, sz3, sz4, sz5, sz6, kt1, kt2, kt3, kt4, kt5, kt6, kt7, kt8, kt9, kt10, kt11, kt12, kt13, kt14, kt15, ]))
end LT
namespace LT
open PySem VI
/-! P2: what rows cost, plainly -/
theorem perm_of_sub : ∀ (r l : List Int), r.Nodup → (∀ x ∈ r, x ∈ l) → l.length ≤ r.length → r.Perm l
  | [], l, _, _, h => by
    have : l = [] := List.length_eq_zero_iff.mp (by simpa using h)
    subst this
    exact List.Perm.refl _
  | a :: r, l, nd, hs, h => by
    have ha : a ∈ l := hs a (List.mem_cons_self ..)
    obtain ⟨na, nr⟩ := List.nodup_cons.mp nd
    have p1 := List.perm_cons_erase ha
    have h1 : (l.erase a).length = l.length - 1 := List.length_erase_of_mem ha
    have hlp : 0 < l.length := List.length_pos_of_mem ha
    refine (List.Perm.cons a (perm_of_sub r (l.erase a) nr (fun x hx => ?_) (by rw [h1]; simp only [List.length_cons] at h; omega))).trans p1.symm
    have hx2 := hs x (List.mem_cons_of_mem _ hx)
    have hne : x ≠ a := fun e => na (e ▸ hx)
    exact (List.mem_erase_of_ne hne).mpr hx2
theorem jobs_len (n : Nat) : (jobs n).length = n := by simp [jobs]
theorem mem_jobs {n : Nat} {i : Int} : i ∈ jobs n ↔ 0 ≤ i ∧ i < n := by
  constructor
  · exact jobs_rg i
  · intro ⟨h0, h1⟩
    exact List.mem_map.mpr ⟨i.toNat, by simp; omega, by omega⟩
theorem jobs_nodup (n : Nat) : (jobs n).Nodup := by
  unfold jobs
  rw [List.nodup_iff_pairwise_ne, List.pairwise_map]
  exact List.Pairwise.imp (fun h e => h (by omega)) (List.nodup_iff_pairwise_ne.mp List.nodup_range)
theorem IsRow.jobs {n : Nat} {r : List Int} (h : IsRow n r) : r.Perm (jobs n) := perm_of_sub r _ h.nd (fun x hx => mem_jobs.mpr (h.rg x hx)) (by rw [jobs_len, h.len]; exact Nat.le_refl _)
theorem isRow_of_perm {n : Nat} {r : List Int} (p : r.Perm (jobs n)) : IsRow n r := ⟨by rw [p.length_eq, jobs_len], p.nodup_iff.mpr (jobs_nodup n), fun i hi => jobs_rg i (p.mem_iff.mp hi)⟩
/-- what a row costs, along it -/
def cR (T W : Int → Int) : List Int → Int → Int
  | [], _ => 0
  | j :: r, now => W j * (now + T j) + cR T W r (now + T j)
def sm (f : Int → Int) (l : List Int) : Int := (l.map f).sum
theorem sm_cons (f : Int → Int) (a : Int) (l : List Int) : sm f (a :: l) = f a + sm f l := by simp [sm]
theorem sm_app (f : Int → Int) (l m : List Int) : sm f (l ++ m) = sm f l + sm f m := by simp [sm]
theorem sm_perm {f : Int → Int} {l m : List Int} (p : l.Perm m) : sm f l = sm f m := by
  unfold sm
  induction p with
  | nil => rfl
  | cons a _ ih => simp only [List.map_cons, List.sum_cons, ih]
  | swap a b l => simp only [List.map_cons, List.sum_cons]; omega
  | trans _ _ h1 h2 => exact h1.trans h2
theorem sm_nil (f : Int → Int) : sm f [] = 0 := rfl
theorem cR_now (T W : Int → Int) : ∀ (r : List Int) (now : Int), cR T W r now = now * sm W r + cR T W r 0
  | [], now => by simp [cR, sm]
  | j :: r, now => by
    rw [cR, cR, cR_now T W r (now + T j), cR_now T W r (0 + T j), sm_cons]
    simp only [Int.mul_add, Int.add_mul, Int.zero_mul, Int.mul_zero, Int.zero_add]
    rw [Int.mul_comm (W j) now]
    omega
theorem cR_snoc (T W : Int → Int) : ∀ (r : List Int) (a now : Int), cR T W (r ++ [a]) now = cR T W r now + W a * (now + sm T r + T a)
  | [], a, now => by simp [cR, sm]
  | j :: r, a, now => by
    rw [List.cons_append, cR, cR, cR_snoc T W r a (now + T j), sm_cons]
    have : now + T j + sm T r + T a = now + (T j + sm T r) + T a := by omega
    rw [this]
    omega
theorem cR_cons (T W : Int → Int) (j : Int) (r : List Int) : cR T W (j :: r) 0 = W j * T j + T j * sm W r + cR T W r 0 := by
  rw [cR, cR_now T W r (0 + T j)]
  simp only [Int.zero_add]
  omega
theorem sm_rev (f : Int → Int) (l : List Int) : sm f l.reverse = sm f l := sm_perm (List.reverse_perm l)
theorem cR_turned (T W : Int → Int) : ∀ (r : List Int), cR T W r 0 + cR T W r.reverse 0 = sm (fun j => W j * (sm T r + T j)) r
  | [] => rfl
  | a :: r => by
    have ih := cR_turned T W r
    rw [List.reverse_cons, cR_snoc, cR_cons, sm_rev, sm_cons]
    have e : sm (fun j => W j * (sm T (a :: r) + T j)) r = sm (fun j => W j * (sm T r + T j)) r + T a * sm W r := by
      have : ∀ (l : List Int), sm (fun j => W j * (sm T (a :: r) + T j)) l = sm (fun j => W j * (sm T r + T j)) l + T a * sm W l := fun l => by
        induction l with
        | nil => simp [sm]
        | cons b l ihl =>
          rw [sm_cons (fun j => W j * (sm T (a :: r) + T j)) b l, sm_cons (fun j => W j * (sm T r + T j)) b l, ihl, sm_cons W b l, sm_cons T a r]
          simp only [Int.mul_add]
          rw [Int.mul_comm (W b) (T a)]
          omega
      exact this r
    rw [e, ← ih, sm_cons]
    simp only [Int.mul_add, Int.zero_add]
    omega
theorem cR_dual (T W : Int → Int) : ∀ (r : List Int), cR W T r.reverse 0 = cR T W r 0
  | [] => rfl
  | a :: r => by
    rw [List.reverse_cons, cR_snoc, cR_cons, sm_rev, cR_dual T W r]
    simp only [Int.mul_add, Int.zero_add]
    rw [Int.mul_comm (T a) (W a)]
    omega
/-- two neighbours -/
theorem cR_swap (T W : Int → Int) : ∀ (l1 l2 : List Int) (a b now : Int), cR T W (l1 ++ a :: b :: l2) now - cR T W (l1 ++ b :: a :: l2) now = W b * T a - W a * T b
  | [], l2, a, b, now => by
    simp only [List.nil_append, cR]
    have : now + T b + T a = now + T a + T b := by omega
    rw [this]
    simp only [Int.mul_add]
    omega
  | c :: l1, l2, a, b, now => by
    have := cR_swap T W l1 l2 a b (now + T c)
    simp only [List.cons_append, cR]
    omega
/-! sums over numbers below n -/
theorem sum_upd : ∀ (n j : Nat) (g h : Nat → Int), j < n → (∀ i, i < n → i ≠ j → g i = h i) → ((List.range n).map g).sum = ((List.range n).map h).sum - h j + g j
  | 0, j, _, _, hj, _ => by omega
  | n + 1, j, g, h, hj, he => by
    simp only [List.range_succ, List.map_append, List.sum_append, List.map_cons, List.map_nil, List.sum_cons, List.sum_nil]
    by_cases e : j = n
    · subst e
      have : (List.range j).map g = (List.range j).map h := List.map_congr_left fun i hi => by
        have hi : i < j := by simpa using hi
        exact he i (by omega) (by omega)
      rw [this]
      omega
    · rw [sum_upd n j g h (by omega) fun i hi hne => he i (by omega) hne, he n (by omega) (fun z => e z.symm)]
      omega
theorem sm_jobs (f : Int → Int) (n : Nat) : sm f (jobs n) = ((List.range n).map fun (i : Nat) => f i).sum := by
  unfold sm jobs
  rw [List.map_map]
  rfl
def SE (ws : List Int) (n : Nat) (f : List Int) : Int := ((List.range n).map fun (i : Nat) => at_ ws i * at_ f i).sum
theorem at_set {f : List Int} {j : Int} (h0 : 0 ≤ j) (h1 : j < f.length) (e : Int) (i : Nat) : at_ (f.set j.toNat e) i = if (i : Int) = j then e else at_ f i := by
  rw [at_nat, at_nat]
  by_cases h : (i : Int) = j
  · rw [if_pos h]
    have : i = j.toNat := by omega
    subst this
    have : j.toNat < f.length := by omega
    simp [this]
  · rw [if_neg h]
    have : j.toNat ≠ i := by omega
    simp [List.getElem?_set_ne this]
theorem ends_sum (ts ws : List Int) (n : Nat) : ∀ (r : List Int) (now : Int) (f : List Int), f.length = n → r.Nodup → (∀ i ∈ r, 0 ≤ i ∧ i < n) → SE ws n (r.foldl (endSt ts) (now, f)).2 = SE ws n f - sm (fun j => at_ ws j * at_ f j) r + cR (at_ ts) (at_ ws) r now
  | [], now, f, _, _, _ => by simp [cR, sm]
  | j :: r, now, f, hf, nd, hr => by
    obtain ⟨na, nr⟩ := List.nodup_cons.mp nd
    obtain ⟨j0, j1⟩ := hr j (List.mem_cons_self ..)
    have jl : j < f.length := by omega
    rw [List.foldl_cons]
    show SE ws n (r.foldl (endSt ts) (now + at_ ts j, f.set j.toNat (now + at_ ts j))).2 = _
    rw [ends_sum ts ws n r (now + at_ ts j) (f.set j.toNat (now + at_ ts j)) (by rw [List.length_set]; exact hf) nr fun i hi => hr i (List.mem_cons_of_mem _ hi)]
    have e1 : SE ws n (f.set j.toNat (now + at_ ts j)) = SE ws n f - at_ ws j * at_ f j + at_ ws j * (now + at_ ts j) := by
      unfold SE
      have hj : ((j.toNat : Nat) : Int) = j := by omega
      rw [sum_upd n j.toNat (fun (i : Nat) => at_ ws i * at_ (f.set j.toNat (now + at_ ts j)) i) (fun (i : Nat) => at_ ws i * at_ f i) (by omega) fun i hi hne => by
        rw [at_set j0 jl, if_neg (by omega)]]
      rw [at_set j0 jl, if_pos hj, hj]
    have e2 : sm (fun i => at_ ws i * at_ (f.set j.toNat (now + at_ ts j)) i) r = sm (fun i => at_ ws i * at_ f i) r := by
      unfold sm
      congr 1
      refine List.map_congr_left fun i hi => ?_
      obtain ⟨i0, i1⟩ := hr i (List.mem_cons_of_mem _ hi)
      have hne : i ≠ j := fun z => na (z ▸ hi)
      have hi' : ((i.toNat : Nat) : Int) = i := by omega
      have := at_set j0 jl (now + at_ ts j) i.toNat
      rw [hi', if_neg hne] at this
      rw [this]
    rw [e1, e2, sm_cons, cR]
    omega
theorem costF_eq {ts ws r : List Int} (h : IsRow ts.length r) : costF ts ws r = cR (at_ ts) (at_ ws) r 0 := by
  have := ends_sum ts ws ts.length r 0 (List.replicate ts.length 0) (by simp) h.nd h.rg
  have z : ∀ j : Int, at_ (List.replicate ts.length 0) j = 0 := fun j => by
    unfold at_
    simp [List.getElem?_replicate]
    split <;> rfl
  have e1 : SE ws ts.length (List.replicate ts.length 0) = 0 := by
    unfold SE
    simp only [z, Int.mul_zero]
    have : ∀ l : List Nat, (l.map fun _ => (0 : Int)).sum = 0 := fun l => by
      induction l with
      | nil => rfl
      | cons a l ih => simp only [List.map_cons, List.sum_cons, ih]; rfl
    exact this _
  have e2 : sm (fun j => at_ ws j * at_ (List.replicate ts.length 0) j) r = 0 := by
    simp only [z, Int.mul_zero]
    unfold sm
    have : ∀ l : List Int, (l.map fun _ => (0 : Int)).sum = 0 := fun l => by
      induction l with
      | nil => rfl
      | cons a l ih => simp only [List.map_cons, List.sum_cons, ih]; rfl
    exact this _
  rw [e1, e2] at this
  show SE ws ts.length (endsF ts r) = _
  unfold endsF
  rw [this]
  omega
end LT
namespace LT
open PySem VI
/-! P3: least costs, plainly -/
def pS (m : Int → Int → Int) : List Int → Int
  | [] => 0
  | a :: r => sm (m a) r + pS m r
theorem pS_perm {m : Int → Int → Int} (hm : ∀ a b, m a b = m b a) {l r : List Int} (p : l.Perm r) : pS m l = pS m r := by
  induction p with
  | nil => rfl
  | cons a p ih => rw [pS, pS, sm_perm p, ih]
  | swap a b l =>
    simp only [pS, sm_cons]
    rw [hm b a]
    omega
  | trans _ _ h1 h2 => exact h1.trans h2
theorem pS_snoc {m : Int → Int → Int} : ∀ (l : List Int) (a : Int), pS m (l ++ [a]) = pS m l + sm (fun b => m b a) l
  | [], a => by simp [pS, sm]
  | b :: l, a => by
    rw [List.cons_append, pS, pS, pS_snoc l a, sm_app, sm_cons (fun b => m b a), sm_cons, sm_nil]
    omega
theorem sm_mul (c : Int) (f : Int → Int) : ∀ (l : List Int), sm (fun b => f b * c) l = c * sm f l
  | [] => by simp [sm]
  | b :: l => by
    rw [sm_cons (fun b => f b * c), sm_cons, sm_mul c f l, Int.mul_add, Int.mul_comm (f b) c]
theorem cR_pairs (T W : Int → Int) : ∀ (r : List Int), cR T W r 0 = sm (fun j => W j * T j) r + pS (fun a b => W b * T a) r
  | [] => rfl
  | a :: r => by
    rw [cR_cons, cR_pairs T W r, sm_cons (fun j => W j * T j), pS, sm_mul (T a) W r]
    omega
theorem mn_symm (ts ws : List Int) (a b : Int) : mn ts ws a b = mn ts ws b a := by
  unfold mn
  exact Int.min_comm _ _
theorem srt_pairs {ts ws : List Int} : ∀ {r : List Int}, Srt (gn ts ws) r → pS (fun a b => at_ ws b * at_ ts a) r = pS (mn ts ws) r
  | [], _ => rfl
  | a :: r, h => by
    obtain ⟨h1, h2⟩ := List.pairwise_cons.mp h
    rw [pS, pS, srt_pairs h2]
    congr 1
    unfold sm
    congr 1
    refine List.map_congr_left fun b hb => ?_
    have := h1 b hb
    unfold gn at this
    unfold mn
    omega
def leastN (ts ws : List Int) (n : Nat) : Int := (List.range n).foldl (fun (s : Int) (j : Nat) => (List.range j).foldl (fun (s : Int) (o : Nat) => s + mn ts ws j o) (s + at_ ws j * at_ ts j)) 0
theorem foldl_add (f : Nat → Int) : ∀ (l : List Nat) (s : Int), l.foldl (fun (s : Int) (o : Nat) => s + f o) s = s + (l.map f).sum
  | [], s => by simp
  | a :: l, s => by rw [List.foldl_cons, foldl_add f l, List.map_cons, List.sum_cons, Int.add_assoc]
theorem jobs_succ (n : Nat) : jobs (n + 1) = jobs n ++ [(n : Int)] := by
  unfold jobs
  rw [List.range_succ, List.map_append]
  rfl
theorem leastN_eq (ts ws : List Int) : ∀ n : Nat, leastN ts ws n = sm (fun j => at_ ws j * at_ ts j) (jobs n) + pS (mn ts ws) (jobs n)
  | 0 => rfl
  | n + 1 => by
    have e : leastN ts ws (n + 1) = (List.range n).foldl (fun (s : Int) (o : Nat) => s + mn ts ws n o) (leastN ts ws n + at_ ws n * at_ ts n) := by
      unfold leastN
      rw [List.range_succ, List.foldl_append]
      rfl
    rw [e, foldl_add, leastN_eq ts ws n, jobs_succ, sm_app, sm_cons, sm_nil, pS_snoc]
    have e2 : ((List.range n).map fun (o : Nat) => mn ts ws n o).sum = sm (fun b => mn ts ws b n) (jobs n) := by
      rw [sm_jobs]
      congr 1
      exact List.map_congr_left fun o _ => mn_symm ts ws _ _
    rw [e2]
    omega
theorem leastF_eq (ts ws : List Int) : leastF ts ws = sm (fun j => at_ ws j * at_ ts j) (jobs ts.length) + pS (mn ts ws) (jobs ts.length) := leastN_eq ts ws ts.length
/-- a row in which no pair stands wrongly costs the least -/
theorem srt_cost {ts ws r : List Int} (h : IsRow ts.length r) (hs : Srt (gn ts ws) r) : costF ts ws r = leastF ts ws := by
  rw [costF_eq h, cR_pairs, srt_pairs hs, leastF_eq, sm_perm h.jobs, pS_perm (mn_symm ts ws) h.jobs]
/-- an exchange lowers the cost by its gain -/
theorem swap_cost {ts ws r : List Int} {p : Nat} (h : IsRow ts.length r) (hp : p + 1 < r.length) : costF ts ws r - costF ts ws (swapF r p) = gn ts ws (at_ r p) (at_ r (p + 1 : Nat)) := by
  rw [costF_eq h, costF_eq (h.perm (swapF_perm hp))]
  obtain ⟨e1, e2⟩ := swapF_eq hp
  have := cR_swap (at_ ts) (at_ ws) (r.take p) (r.drop (p + 2)) (at_ r p) (at_ r (p + 1 : Nat)) 0
  rw [← e1, ← e2] at this
  exact this
/-- the row turned -/
theorem turn_cost {ts ws r : List Int} (h : IsRow ts.length r) : costF ts ws r + costF ts ws r.reverse = sm (fun j => at_ ws j * (sm (at_ ts) (jobs ts.length) + at_ ts j)) (jobs ts.length) := by
  rw [costF_eq h, costF_eq (h.perm (List.reverse_perm r)), cR_turned, sm_perm h.jobs, sm_perm h.jobs]
/-- times and weights exchanged -/
theorem dual_cost {ts ws r : List Int} (lw : ws.length = ts.length) (h : IsRow ts.length r) : costF ws ts r.reverse = costF ts ws r := by
  rw [costF_eq (ts := ws) (by rw [lw]; exact h.perm (List.reverse_perm r)), costF_eq h, cR_dual]
theorem dual_gn (ts ws : List Int) (a b : Int) : gn ws ts a b = gn ts ws b a := by
  unfold gn
  rw [Int.mul_comm (at_ ts b), Int.mul_comm (at_ ts a)]
theorem dual_mn (ts ws : List Int) (a b : Int) : mn ws ts a b = mn ts ws a b := by
  unfold mn
  rw [Int.min_comm, Int.mul_comm (at_ ts b), Int.mul_comm (at_ ts a)]
theorem dual_least {ts ws : List Int} (lw : ws.length = ts.length) : leastF ws ts = leastF ts ws := by
  rw [leastF_eq, leastF_eq, lw]
  congr 1
  · unfold sm
    congr 1
    exact List.map_congr_left fun j _ => Int.mul_comm _ _
  · have : mn ws ts = mn ts ws := funext fun a => funext fun b => dual_mn ts ws a b
    rw [this]
theorem srt_rev {g : Int → Int → Int} {r : List Int} : Srt (fun a b => g b a) r.reverse ↔ Srt g r := by
  unfold Srt
  rw [List.pairwise_reverse]
end LT
namespace LT
open PySem VI
/-! W7: the law's parts: exchanges, rows turned -/
theorem swap_parts {r : List Int} {p : Nat} (hp : p + 1 < r.length) (hl : r.length ≤ 12) : slD (dI r) none (some (p : Int)) = some (dI (r.take p)) ∧ slD (dI r) (some ((p : Int) + 2)) none = some (dI (r.drop (p + 2))) ∧
    addD (dI (r.take p)) (.lst [.int (at_ r ((p : Int) + 1)), .int (at_ r p)]) = some (dI (r.take p ++ [at_ r ((p : Int) + 1), at_ r p])) ∧ addD (dI (r.take p ++ [at_ r ((p : Int) + 1), at_ r p])) (dI (r.drop (p + 2))) = some (dI (swapF r p)) := by
  refine ⟨?_, ?_, ?_, ?_⟩
  · show some (D.lst (cutL (r.map D.int) none (some (p : Int)))) = _
    rw [cutL_take _ (by rw [List.length_map]; omega), ← List.map_take]
  · show some (D.lst (cutL (r.map D.int) (some ((p : Int) + 2)) none)) = _
    rw [show (p : Int) + 2 = ((p + 2 : Nat) : Int) from by omega, cutL_drop _ (by rw [List.length_map]; omega), ← List.map_drop]
  · show (if (List.map D.int (r.take p)).length + 2 ≤ sizeLine then some (D.lst (List.map D.int (r.take p) ++ [.int (at_ r ((p : Int) + 1)), .int (at_ r p)])) else none) = _
    rw [if_pos (sz12 (by rw [List.length_map, List.length_take]; omega))]
    simp
  · show (if (List.map D.int (r.take p ++ [at_ r ((p : Int) + 1), at_ r p])).length + (List.map D.int (r.drop (p + 2))).length ≤ sizeLine then some (D.lst (List.map D.int (r.take p ++ [at_ r ((p : Int) + 1), at_ r p]) ++ List.map D.int (r.drop (p + 2)))) else none) = _
    rw [if_pos (sz12 (by simp only [List.length_map, List.length_append, List.length_take, List.length_drop, List.length_cons, List.length_nil]; omega)), ← List.map_append]
    rfl
theorem exch_loop {k : Nat} (hk : 8 ≤ k) {ts ws r : List Int} {pl : D} (J : Jobs ts ws) : ∀ (n : Nat) (now : List Int) (total C : Int) (o6 o7 o8 : Option D), IsRow ts.length now → inv (gn ts ws) now ≤ n → costF ts ws now + total = C →
    ∃ o6' o7' o8', forD (.nm 6) (exs (CF T k) w_43_5) (((exchF (gn ts ws) n now).map fun (p : Nat) => (p : Int)).map D.int) [some (dI ts), some (dI ws), some (dI r), some (dI now), some (.int total), some pl, o6, o7, o8] = .next [some (dI ts), some (dI ws), some (dI r), some (dI (lastF (gn ts ws) n now)), some (.int (C - costF ts ws (lastF (gn ts ws) n now))), some pl, o6', o7', o8']
  | 0, now, total, C, o6, o7, o8, h, hi, hC => by
    refine ⟨o6, o7, o8, ?_⟩
    have : total = C - costF ts ws now := by omega
    rw [this]
    rfl
  | n + 1, now, total, C, o6, o7, o8, h, hi, hC => by
    unfold exchF lastF
    cases q : firstG (gn ts ws) now with
    | none =>
      refine ⟨o6, o7, o8, ?_⟩
      have : total = C - costF ts ws now := by omega
      rw [this]
      rfl
    | some p =>
      obtain ⟨hp, hg⟩ := first_some q
      have hn := J.l2
      have hl := h.len
      have pm := swapF_perm hp
      have h2 := h.perm pm
      have sc := swap_cost (ws := ws) h hp
      have g1 := gain_at (k := k) (by omega) J h (p := p) (by omega)
      have c1 := waiting_cost_at (k := k) (by omega) J h
      have c2 := waiting_cost_at (k := k) (by omega) J h2
      have a1 := idx_at (xs := now) (i := (p : Int)) (by omega) (by omega)
      have a2 := idx_at (xs := now) (i := (p : Int) + 1) (by omega) (by omega)
      obtain ⟨s1, s2, s3, s4⟩ := swap_parts hp (by omega)
      obtain ⟨o6', o7', o8', e⟩ := exch_loop (r := r) (pl := pl) hk J n (swapF now p) (total + gn ts ws (at_ now p) (at_ now (p + 1 : Nat))) C (some (.int p)) (some (.int (gn ts ws (at_ now p) (at_ now (p + 1 : Nat))))) (some (.int (costF ts ws now))) h2 (by have := inv_step (gn_anti ts ws) q; omega) (by omega)
      refine ⟨o6', o7', o8', ?_⟩
      simp only [List.map_cons]
      unfold forD
      have hb : bindT (.nm 6) (.int p) [some (dI ts), some (dI ws), some (dI r), some (dI now), some (.int total), some pl, o6, o7, o8] = some [some (dI ts), some (dI ws), some (dI r), some (dI now), some (.int total), some pl, some (.int p), o7, o8] := by simp [bindT]
      rw [hb]
      simp only
      generalize hG : gn ts ws (at_ now p) (at_ now (p + 1 : Nat)) = G at *
      have hbody : exs (CF T k) w_43_5 [some (dI ts), some (dI ws), some (dI r), some (dI now), some (.int total), some pl, some (.int p), o7, o8] = .next [some (dI ts), some (dI ws), some (dI r), some (dI (swapF now p)), some (.int (total + G)), some pl, some (.int p), some (.int G), some (.int (costF ts ws now))] := by
        unfold w_43_5 s_43_0 s_43_1 s_43_2 s_43_3 s_43_4
        refine (exs_next (ex_set (d := .int G) (env1 := [some (dI ts), some (dI ws), some (dI r), some (dI now), some (.int total), some pl, some (.int p), o7, o8]) (by simp -implicitDefEqProofs [runF, exs, ex, evb, evi, evc, evo, ev, evs, getE, callD, argsAt, outsAt, outsOf, IEs.owns, binD, cmpD, biD, addD, subD, leD, ltD, isiD, truD, negD, isL, eq_int, itemsD, bindT, len_dI, sz0, sz1, sz2, sz3, sz4, sz5, sz6, kt1, kt2, kt3, kt4, kt5, kt6, kt7, kt8, kt9, kt10, kt11, kt12, kt13, kt14, kt15, g1]) (fun h => by cases h) (by simp))).trans ?_
        refine (exs_next (ex_set (d := .int (costF ts ws now)) (env1 := [some (dI ts), some (dI ws), some (dI r), some (dI now), some (.int total), some pl, some (.int p), some (.int G), o8]) (by simp -implicitDefEqProofs [runF, exs, ex, evb, evi, evc, evo, ev, evs, getE, callD, argsAt, outsAt, outsOf, IEs.owns, binD, cmpD, biD, addD, subD, leD, ltD, isiD, truD, negD, isL, eq_int, itemsD, bindT, len_dI, sz0, sz1, sz2, sz3, sz4, sz5, sz6, kt1, kt2, kt3, kt4, kt5, kt6, kt7, kt8, kt9, kt10, kt11, kt12, kt13, kt14, kt15, c1]) (fun h => by cases h) (by simp))).trans ?_
        refine (exs_next (ex_set (d := dI (swapF now p)) (env1 := [some (dI ts), some (dI ws), some (dI r), some (dI now), some (.int total), some pl, some (.int p), some (.int G), some (.int (costF ts ws now))]) ?_ (fun h => by cases h) (by simp))).trans ?_
        · refine ev_bin (env1 := [some (dI ts), some (dI ws), some (dI r), some (dI now), some (.int total), some pl, some (.int p), some (.int G), some (.int (costF ts ws now))]) (x := dI (now.take p ++ [at_ now ((p : Int) + 1), at_ now p])) (y := dI (now.drop (p + 2))) (ev_bin (env1 := [some (dI ts), some (dI ws), some (dI r), some (dI now), some (.int total), some pl, some (.int p), some (.int G), some (.int (costF ts ws now))]) (x := dI (now.take p)) (y := .lst [.int (at_ now ((p : Int) + 1)), .int (at_ now p)]) ?_ ?_ s3) ?_ s4
          · simp -implicitDefEqProofs [runF, exs, ex, evb, evi, evc, evo, ev, evs, getE, callD, argsAt, outsAt, outsOf, IEs.owns, binD, cmpD, biD, addD, subD, leD, ltD, isiD, truD, negD, isL, eq_int, itemsD, bindT, len_dI, sz0, sz1, sz2, sz3, sz4, sz5, sz6, kt1, kt2, kt3, kt4, kt5, kt6, kt7, kt8, kt9, kt10, kt11, kt12, kt13, kt14, kt15, s1]
          · simp -implicitDefEqProofs [runF, exs, ex, evb, evi, evc, evo, ev, evs, getE, callD, argsAt, outsAt, outsOf, IEs.owns, binD, cmpD, biD, addD, subD, leD, ltD, isiD, truD, negD, isL, eq_int, itemsD, bindT, len_dI, sz0, sz1, sz2, sz3, sz4, sz5, sz6, kt1, kt2, kt3, kt4, kt5, kt6, kt7, kt8, kt9, kt10, kt11, kt12, kt13, kt14, kt15, a1, a2]
          · simp -implicitDefEqProofs [runF, exs, ex, evb, evi, evc, evo, ev, evs, getE, callD, argsAt, outsAt, outsOf, IEs.owns, binD, cmpD, biD, addD, subD, leD, ltD, isiD, truD, negD, isL, eq_int, itemsD, bindT, len_dI, sz0, sz1, sz2, sz3, sz4, sz5, sz6, kt1, kt2, kt3, kt4, kt5, kt6, kt7, kt8, kt9, kt10, kt11, kt12, kt13, kt14, kt15, s2]
        · have q1 : ¬ G < 1 := by omega
          have q2 : costF ts ws now - costF ts ws (swapF now p) = G := sc
          refine (exs_next (env1 := [some (dI ts), some (dI ws), some (dI r), some (dI (swapF now p)), some (.int total), some pl, some (.int p), some (.int G), some (.int (costF ts ws now))]) ?_).trans ?_
          · rw [ex_if (t := false) (env1 := [some (dI ts), some (dI ws), some (dI r), some (dI (swapF now p)), some (.int total), some pl, some (.int p), some (.int G), some (.int (costF ts ws now))]) (by simp -implicitDefEqProofs [runF, exs, ex, evb, evi, evc, evo, ev, evs, getE, callD, argsAt, outsAt, outsOf, IEs.owns, binD, cmpD, biD, addD, subD, leD, ltD, isiD, truD, negD, isL, eq_int, itemsD, bindT, len_dI, sz0, sz1, sz2, sz3, sz4, sz5, sz6, kt1, kt2, kt3, kt4, kt5, kt6, kt7, kt8, kt9, kt10, kt11, kt12, kt13, kt14, kt15, q1, c2, q2])]
            rw [if_neg (by simp)]
            exact exs_nil
          · exact (exs_next (ex_set (d := .int (total + G)) (env1 := [some (dI ts), some (dI ws), some (dI r), some (dI (swapF now p)), some (.int total), some pl, some (.int p), some (.int G), some (.int (costF ts ws now))]) (by simp -implicitDefEqProofs [runF, exs, ex, evb, evi, evc, evo, ev, evs, getE, callD, argsAt, outsAt, outsOf, IEs.owns, binD, cmpD, biD, addD, subD, leD, ltD, isiD, truD, negD, isL, eq_int, itemsD, bindT, len_dI, sz0, sz1, sz2, sz3, sz4, sz5, sz6, kt1, kt2, kt3, kt4, kt5, kt6, kt7, kt8, kt9, kt10, kt11, kt12, kt13, kt14, kt15, ]) (fun h => by cases h) (by simp))).trans exs_nil
      rw [hbody]
      simp only
      exact e
theorem exchanges_right_at {k : Nat} (hk : 9 ≤ k) {ts ws r : List Int} (J : Jobs ts ws) (h : IsRow ts.length r) : CF T k 43 [dI ts, dI ws, dI r] = .ret (.bl true) [] := by
  obtain ⟨k, rfl⟩ : ∃ j, k = j + 1 := ⟨k - 1, by omega⟩
  have hn := J.l2
  have hi : inv (gn ts ws) r ≤ 144 := by
    have := inv_le (gn ts ws) r
    rw [h.len] at this
    have h5 : ts.length * ts.length ≤ 12 * 12 := Nat.mul_le_mul hn hn
    omega
  obtain ⟨l1, l2, l3⟩ := exch_len (gn_anti ts ws) (gn_tr J) 144 r h.rg hi
  have h2 := h.perm l3
  have lc := srt_cost h2 l2
  have x1 := exchanges_at (k := k) (by omega) J h
  have x2 := wrong_pairs_at (k := k) (by omega) J h
  have x3 := waiting_cost_at (k := k) (by omega) J h
  have x4 := least_waiting_at (k := k) (by omega) J
  have x5 := is_best_waiting_row_at (k := k) (by omega) J h2
  rw [srt_best l2] at x5
  obtain ⟨o6, o7, o8, e⟩ := exch_loop (k := k) (r := r) (pl := dI ((exchF (gn ts ws) 144 r).map fun (p : Nat) => (p : Int))) (by omega) J 144 r 0 (costF ts ws r) none none none h hi (by omega)
  rw [lc] at e
  have hlen : (((exchF (gn ts ws) 144 r).map fun (p : Nat) => (p : Int)).length : Int) = ((inv (gn ts ws) r : Nat) : Int) := by rw [List.length_map, l1]
  generalize hpl : (exchF (gn ts ws) 144 r).map (fun (p : Nat) => (p : Int)) = pl at *
  rw [cf_43]
  refine runF_ret (env := [some (dI ts), some (dI ws), some (dI r), some (dI (lastF (gn ts ws) 144 r)), some (.int (costF ts ws r - leastF ts ws)), some (dI pl), o6, o7, o8]) ?_ rfl rfl rfl
  show exs (CF T k) f_43.body [some (dI ts), some (dI ws), some (dI r), none, none, none, none, none, none] = _
  refine (exs_next (env1 := [some (dI ts), some (dI ws), some (dI r), some (dI r), some (.int 0), none, none, none, none]) (by simp -implicitDefEqProofs [runF, exs, ex, evb, evi, evc, evo, ev, evs, getE, callD, argsAt, outsAt, outsOf, IEs.owns, binD, cmpD, biD, addD, subD, leD, ltD, isiD, truD, negD, isL, eq_int, itemsD, bindT, len_dI, sz0, sz1, sz2, sz3, sz4, sz5, sz6, kt1, kt2, kt3, kt4, kt5, kt6, kt7, kt8, kt9, kt10, kt11, kt12, kt13, kt14, kt15, ])).trans ?_
  refine (exs_next (ex_set (d := dI pl) (env1 := [some (dI ts), some (dI ws), some (dI r), some (dI r), some (.int 0), none, none, none, none]) (by simp -implicitDefEqProofs [runF, exs, ex, evb, evi, evc, evo, ev, evs, getE, callD, argsAt, outsAt, outsOf, IEs.owns, binD, cmpD, biD, addD, subD, leD, ltD, isiD, truD, negD, isL, eq_int, itemsD, bindT, len_dI, sz0, sz1, sz2, sz3, sz4, sz5, sz6, kt1, kt2, kt3, kt4, kt5, kt6, kt7, kt8, kt9, kt10, kt11, kt12, kt13, kt14, kt15, x1]) (fun h => by cases h) (by simp))).trans ?_
  refine (exs_next (env1 := [some (dI ts), some (dI ws), some (dI r), some (dI r), some (.int 0), some (dI pl), none, none, none]) ?_).trans ?_
  · rw [ex_if (t := false) (env1 := [some (dI ts), some (dI ws), some (dI r), some (dI r), some (.int 0), some (dI pl), none, none, none]) (by simp -implicitDefEqProofs [runF, exs, ex, evb, evi, evc, evo, ev, evs, getE, callD, argsAt, outsAt, outsOf, IEs.owns, binD, cmpD, biD, addD, subD, leD, ltD, isiD, truD, negD, isL, eq_int, itemsD, bindT, len_dI, sz0, sz1, sz2, sz3, sz4, sz5, sz6, kt1, kt2, kt3, kt4, kt5, kt6, kt7, kt8, kt9, kt10, kt11, kt12, kt13, kt14, kt15, x2, hlen])]
    rw [if_neg (by simp)]
    exact exs_nil
  · refine (exs_next ((ex_for (ds := pl.map D.int) (env1 := [some (dI ts), some (dI ws), some (dI r), some (dI r), some (.int 0), some (dI pl), none, none, none]) (by simp -implicitDefEqProofs [runF, exs, ex, evb, evi, evc, evo, ev, evs, getE, callD, argsAt, outsAt, outsOf, IEs.owns, binD, cmpD, biD, addD, subD, leD, ltD, isiD, truD, negD, isL, eq_int, itemsD, bindT, len_dI, sz0, sz1, sz2, sz3, sz4, sz5, sz6, kt1, kt2, kt3, kt4, kt5, kt6, kt7, kt8, kt9, kt10, kt11, kt12, kt13, kt14, kt15, ])).trans e)).trans ?_
    have q : costF ts ws r - (costF ts ws r - leastF ts ws) = leastF ts ws := by omega
    exact exs_ret (ex_ret (by simp -implicitDefEqProofs [runF, exs, ex, evb, evi, evc, evo, ev, evs, getE, callD, argsAt, outsAt, outsOf, IEs.owns, binD, cmpD, biD, addD, subD, leD, ltD, isiD, truD, negD, isL, eq_int, itemsD, bindT, len_dI, sz0, sz1, sz2, sz3, sz4, sz5, sz6, kt1, kt2, kt3, kt4, kt5, kt6, kt7, kt8, kt9, kt10, kt11, kt12, kt13, kt14, kt15, x3, x4, x5, q, isD]))
end LT
namespace LT
open PySem VI
/-! P4: least costs of jobs numbered anew, put beside one another -/
theorem sm_congr {f g : Int → Int} {l : List Int} (h : ∀ a ∈ l, f a = g a) : sm f l = sm g l := by
  unfold sm
  rw [List.map_congr_left h]
theorem sm_map (f : Int → Int) (h : Int → Int) (l : List Int) : sm f (l.map h) = sm (fun a => f (h a)) l := by
  unfold sm
  rw [List.map_map]
  rfl
theorem pS_congr {m q : Int → Int → Int} : ∀ {l : List Int}, (∀ a ∈ l, ∀ b ∈ l, m a b = q a b) → pS m l = pS q l
  | [], _ => rfl
  | a :: l, h => by
    rw [pS, pS, sm_congr fun b hb => h a (List.mem_cons_self ..) b (List.mem_cons_of_mem _ hb), pS_congr fun x hx y hy => h x (List.mem_cons_of_mem _ hx) y (List.mem_cons_of_mem _ hy)]
theorem pS_map (m : Int → Int → Int) (h : Int → Int) : ∀ (l : List Int), pS m (l.map h) = pS (fun a b => m (h a) (h b)) l
  | [] => rfl
  | a :: l => by rw [List.map_cons, pS, pS, sm_map, pS_map m h l]
theorem pS_app (m : Int → Int → Int) : ∀ (l r : List Int), pS m (l ++ r) = pS m l + pS m r + sm (fun a => sm (m a) r) l
  | [], r => by simp [pS, sm]
  | a :: l, r => by
    rw [List.cons_append, pS, pS, pS_app m l r, sm_app, sm_cons (fun a => sm (m a) r)]
    omega
theorem at_lt {xs : List Int} {i : Nat} (h : i < xs.length) : at_ xs i = xs[i] := by
  rw [at_nat]
  simp [h]
theorem jobs_map (l : List Int) : (jobs l.length).map (at_ l) = l := by
  show ((List.range l.length).map fun (i : Nat) => (i : Int)).map (at_ l) = l
  rw [List.map_map]
  refine List.ext_getElem (by simp) fun i h1 h2 => ?_
  simp only [List.getElem_map, List.getElem_range, Function.comp]
  exact at_lt h2
theorem at_map {l : List Int} (f : Int → Int) {i : Int} (h : i ∈ jobs l.length) : at_ (l.map f) i = f (at_ l i) := by
  obtain ⟨j, hj, rfl⟩ := List.mem_map.mp h
  have hj : j < l.length := by simpa using hj
  rw [at_lt hj, at_lt (by simpa using hj)]
  simp
/-- the least cost of the jobs that l names -/
theorem least_map (ts ws l : List Int) : leastF (l.map (at_ ts)) (l.map (at_ ws)) = sm (fun j => at_ ws j * at_ ts j) l + pS (mn ts ws) l := by
  rw [leastF_eq, List.length_map]
  have e1 : sm (fun j => at_ (l.map (at_ ws)) j * at_ (l.map (at_ ts)) j) (jobs l.length) = sm (fun j => at_ ws j * at_ ts j) l := by
    conv => rhs; rw [← jobs_map l, sm_map]
    exact sm_congr fun j hj => by rw [at_map _ hj, at_map _ hj]
  have e2 : pS (mn (l.map (at_ ts)) (l.map (at_ ws))) (jobs l.length) = pS (mn ts ws) l := by
    conv => rhs; rw [← jobs_map l, pS_map]
    exact pS_congr fun a ha b hb => by
      unfold mn
      rw [at_map _ ha, at_map _ ha, at_map _ hb, at_map _ hb]
  rw [e1, e2]
theorem rest_perm {n : Nat} {j : Int} (h0 : 0 ≤ j) (h1 : j < n) : (jobs n).Perm (j :: restF n j) := by
  have hm : j ∈ jobs n := mem_jobs.mpr ⟨h0, h1⟩
  have := List.perm_cons_erase hm
  rwa [(jobs_nodup n).erase_eq_filter j] at this
/-- what a job adds -/
theorem with_eq {ts ws : List Int} {j : Int} (h0 : 0 ≤ j) (h1 : j < ts.length) : withF ts ws j = at_ ws j * at_ ts j + sm (mn ts ws j) (restF ts.length j) := by
  unfold withF
  rw [least_map, leastF_eq, sm_perm (rest_perm h0 h1), pS_perm (mn_symm ts ws) (rest_perm h0 h1), sm_cons (fun j => at_ ws j * at_ ts j), pS]
  omega
theorem twice_pairs {m : Int → Int → Int} (hm : ∀ a b, m a b = m b a) : ∀ {l : List Int}, l.Nodup → sm (fun j => sm (m j) (l.filter fun i => !(i == j))) l = 2 * pS m l
  | [], _ => rfl
  | a :: l, nd => by
    obtain ⟨na, nl⟩ := List.nodup_cons.mp nd
    have e1 : (a :: l).filter (fun i => !(i == a)) = l := by
      rw [List.filter_cons_of_neg (by simp)]
      exact List.filter_eq_self.mpr fun b hb => by
        have : b ≠ a := fun e => na (e ▸ hb)
        simpa using this
    have e2 : sm (fun j => sm (m j) ((a :: l).filter fun i => !(i == j))) l = sm (fun j => m j a + sm (m j) (l.filter fun i => !(i == j))) l := sm_congr fun j hj => by
      have : a ≠ j := fun e => na (e ▸ hj)
      rw [List.filter_cons_of_pos (by simpa using this), sm_cons]
    have e3 : ∀ (f g : Int → Int) (l : List Int), sm (fun j => f j + g j) l = sm f l + sm g l := fun f g l => by
      induction l with
      | nil => rfl
      | cons b l ih => rw [sm_cons (fun j => f j + g j), sm_cons f, sm_cons g, ih]; omega
    rw [sm_cons (fun j => sm (m j) ((a :: l).filter fun i => !(i == j))), e1, e2, e3, twice_pairs hm nl, pS]
    have e4 : sm (fun j => m j a) l = sm (m a) l := sm_congr fun j _ => hm j a
    rw [e4]
    omega
/-- all that jobs add, together -/
theorem with_sum (ts ws : List Int) : sm (withF ts ws) (jobs ts.length) = 2 * leastF ts ws - sm (fun j => at_ ws j * at_ ts j) (jobs ts.length) := by
  have e1 : sm (withF ts ws) (jobs ts.length) = sm (fun j => at_ ws j * at_ ts j + sm (mn ts ws j) (restF ts.length j)) (jobs ts.length) := sm_congr fun j hj => with_eq (mem_jobs.mp hj).1 (mem_jobs.mp hj).2
  have e3 : ∀ (f g : Int → Int) (l : List Int), sm (fun j => f j + g j) l = sm f l + sm g l := fun f g l => by
    induction l with
    | nil => rfl
    | cons b l ih => rw [sm_cons (fun j => f j + g j), sm_cons f, sm_cons g, ih]; omega
  have := twice_pairs (mn_symm ts ws) (jobs_nodup ts.length)
  unfold restF at e1
  rw [e1, e3, this, leastF_eq]
  omega
/-- jobs put beside one another -/
theorem jobs_add (n m : Nat) : jobs (n + m) = jobs n ++ (jobs m).map fun i => (n : Int) + i := by
  unfold jobs
  rw [List.range_add, List.map_append, List.map_map, List.map_map]
  congr 1
theorem at_app1 {xs ys : List Int} {i : Int} (h : i ∈ jobs xs.length) : at_ (xs ++ ys) i = at_ xs i := by
  obtain ⟨j, hj, rfl⟩ := List.mem_map.mp h
  have hj : j < xs.length := by simpa using hj
  rw [at_nat, at_nat]
  simp [List.getElem?_append_left hj]
theorem at_app2 {xs ys : List Int} {i : Int} (h : 0 ≤ i) : at_ (xs ++ ys) ((xs.length : Int) + i) = at_ ys i := by
  obtain ⟨j, rfl⟩ := Int.eq_ofNat_of_zero_le h
  have : (xs.length : Int) + (j : Int) = ((xs.length + j : Nat) : Int) := by omega
  rw [this, at_nat, at_nat]
  simp [List.getElem?_append_right]
theorem least_app {ts ws ts2 ws2 : List Int} (lw : ws.length = ts.length) (lw2 : ws2.length = ts2.length) : leastF (ts ++ ts2) (ws ++ ws2) = leastF ts ws + leastF ts2 ws2 + sm (fun a => sm (fun b => min (at_ ws a * at_ ts2 b) (at_ ws2 b * at_ ts a)) (jobs ts2.length)) (jobs ts.length) := by
  have w1 : ∀ {i : Int}, i ∈ jobs ts.length → at_ (ws ++ ws2) i = at_ ws i := fun {i} h => at_app1 (by rw [lw]; exact h)
  have w2 : ∀ {i : Int}, 0 ≤ i → at_ (ws ++ ws2) ((ts.length : Int) + i) = at_ ws2 i := fun {i} h => by rw [← lw]; exact at_app2 h
  rw [leastF_eq, leastF_eq, leastF_eq, List.length_append, jobs_add, sm_app, pS_app, sm_map, pS_map]
  have a1 : sm (fun j => at_ (ws ++ ws2) j * at_ (ts ++ ts2) j) (jobs ts.length) = sm (fun j => at_ ws j * at_ ts j) (jobs ts.length) := sm_congr fun j hj => by rw [w1 hj, at_app1 hj]
  have a2 : sm (fun j => at_ (ws ++ ws2) ((ts.length : Int) + j) * at_ (ts ++ ts2) ((ts.length : Int) + j)) (jobs ts2.length) = sm (fun j => at_ ws2 j * at_ ts2 j) (jobs ts2.length) := sm_congr fun j hj => by rw [w2 (mem_jobs.mp hj).1, at_app2 (mem_jobs.mp hj).1]
  have a3 : pS (mn (ts ++ ts2) (ws ++ ws2)) (jobs ts.length) = pS (mn ts ws) (jobs ts.length) := pS_congr fun a ha b hb => by
    unfold mn
    rw [w1 ha, w1 hb, at_app1 ha, at_app1 hb]
  have a4 : pS (fun a b => mn (ts ++ ts2) (ws ++ ws2) ((ts.length : Int) + a) ((ts.length : Int) + b)) (jobs ts2.length) = pS (mn ts2 ws2) (jobs ts2.length) := pS_congr fun a ha b hb => by
    unfold mn
    rw [w2 (mem_jobs.mp ha).1, w2 (mem_jobs.mp hb).1, at_app2 (mem_jobs.mp ha).1, at_app2 (mem_jobs.mp hb).1]
  have a5 : sm (fun a => sm (mn (ts ++ ts2) (ws ++ ws2) a) ((jobs ts2.length).map fun i => (ts.length : Int) + i)) (jobs ts.length) = sm (fun a => sm (fun b => min (at_ ws a * at_ ts2 b) (at_ ws2 b * at_ ts a)) (jobs ts2.length)) (jobs ts.length) := sm_congr fun a ha => by
    rw [sm_map]
    exact sm_congr fun b hb => by
      unfold mn
      rw [w1 ha, w2 (mem_jobs.mp hb).1, at_app1 ha, at_app2 (mem_jobs.mp hb).1]
  rw [a1, a2, a3, a4, a5]
  omega
end LT
namespace LT
open PySem VI
/-! W8: jobs put beside -/
theorem gn_up {m n : Nat} {g : D} (h : Gn m g) (hm : m ≤ n) : Gn n g := by
  obtain ⟨a, b, c, r1, r2, r3, r4, r5, r6⟩ := h
  exact ⟨a, b, c, r1, r2, r3, r4, r5, by omega⟩
theorem ex_if0 {C : CT} {env : VI.Env} {c : IE} {u : ISs} (h : evb C c env = .ok false env) : ex C (.ifs c u .nil) env = .next env := by
  rw [ex_if h, if_neg (by simp)]
  exact exs_nil
theorem jobs_D (n : Nat) : (List.range n).map (fun (i : Nat) => D.int (0 + (i : Int))) = (jobs n).map D.int := by
  unfold jobs
  rw [List.map_map]
  exact List.map_congr_left fun i _ => by simp
theorem rng_jobs (n : Nat) : rangeD 0 n = (jobs n).map D.int := by rw [range_dI, jobs_D]
theorem beside_loop {k : Nat} (hk : 8 ≤ k) {ts ws : List Int} (J : Jobs ts ws) {g : D} : ∃ o5 o6 : Option D, forD (.nm 5) (exs (CF T k) w_44_1) ((jobs ts.length).map D.int) [some g, some (dI ts), some (dI ws), some (.int ts.length), some (.int 0), none, none, none, none, none, none, none, none, none, none] = .next [some g, some (dI ts), some (dI ws), some (.int ts.length), some (.int (sm (withF ts ws) (jobs ts.length))), o5, o6, none, none, none, none, none, none, none, none] := by
  have hn := J.l2
  have lw := J.lw
  have r1 : rngOk (ts.length : Int) = true := rngOk_len (sz12 (by omega))
  obtain ⟨o', e, _⟩ := forD_runG (t := .nm 5) (b := exs (CF T k) w_44_1) (mk := fun (s : Int) (o : Option D × Option D) => [some g, some (dI ts), some (dI ws), some (.int ts.length), some (.int s), o.1, o.2, none, none, none, none, none, none, none, none]) (inj := D.int) (f := fun (s : Int) (j : Int) => s + withF ts ws j) (P := fun _ _ => True) (jobs ts.length) 0 (fun i s j o hj _ => by
    obtain ⟨j0, j1⟩ := mem_jobs.mp hj
    refine ⟨_, (some (.int j), some (dI ((restF ts.length j).map (mn ts ws j)))), by simp [bindT]; rfl, ?_, trivial⟩
    have a1 := idx_at (xs := ts) j0 j1
    have a2 := idx_at (xs := ws) j0 (by rw [lw]; exact j1)
    obtain ⟨t1, t2⟩ := J.ti j0 j1
    obtain ⟨w1, w2⟩ := J.wi j0 j1
    have m0 := mul_sm (x := at_ ws j) (y := at_ ts j) (sm_of (by omega) (by omega)) (sm_of (by omega) (by omega))
    have c1 := cost_with_at (k := k) (by omega) J j0 j1
    have el : ev (CF T k) l_44_0 [some g, some (dI ts), some (dI ws), some (.int ts.length), some (.int s), some (.int j), o.2, none, none, none, none, none, none, none, none] = .ok (dI ((restF ts.length j).map (mn ts ws j))) [some g, some (dI ts), some (dI ws), some (.int ts.length), some (.int s), some (.int j), o.2, none, none, none, none, none, none, none, none] := by
      have := ev_lc1 (α := Int) (C := CF T k) (i := 7) (it := .rng (.var 3)) (c := .some (.cmp .NotEq (.var 7) (.var 5))) (e := .ife (.cmp .Lt (.bin .Mult (.idx (.var 2) (.var 7)) (.idx (.var 1) (.var 5))) (.bin .Mult (.idx (.var 2) (.var 5)) (.idx (.var 1) (.var 7)))) (.bin .Mult (.idx (.var 2) (.var 7)) (.idx (.var 1) (.var 5))) (.bin .Mult (.idx (.var 2) (.var 5)) (.idx (.var 1) (.var 7)))) (env := [some g, some (dI ts), some (dI ws), some (.int ts.length), some (.int s), some (.int j), o.2, none, none, none, none, none, none, none, none]) (p := fun i => !(i == j)) (g := fun i => .int (mn ts ws j i)) (inj := .int) (jobs ts.length) (by simp) (by simp -implicitDefEqProofs [runF, exs, ex, evb, evi, evc, evo, ev, evs, getE, callD, argsAt, outsAt, outsOf, IEs.owns, binD, cmpD, biD, addD, subD, leD, ltD, isiD, truD, negD, isL, eq_int, itemsD, bindT, len_dI, sz0, sz1, sz2, sz3, sz4, sz5, sz6, kt1, kt2, kt3, kt4, kt5, kt6, kt7, kt8, kt9, kt10, kt11, kt12, kt13, kt14, kt15, r1, rng_jobs]) (sz12 (by rw [jobs_len]; omega)) (fun x hx => by simp -implicitDefEqProofs [runF, exs, ex, evb, evi, evc, evo, ev, evs, getE, callD, argsAt, outsAt, outsOf, IEs.owns, binD, cmpD, biD, addD, subD, leD, ltD, isiD, truD, negD, isL, eq_int, itemsD, bindT, len_dI, sz0, sz1, sz2, sz3, sz4, sz5, sz6, kt1, kt2, kt3, kt4, kt5, kt6, kt7, kt8, kt9, kt10, kt11, kt12, kt13, kt14, kt15, ]) (fun x hx _ => by
        obtain ⟨x0, x1⟩ := mem_jobs.mp hx
        have b1 := idx_at (xs := ts) x0 x1
        have b2 := idx_at (xs := ws) x0 (by rw [lw]; exact x1)
        obtain ⟨t3, t4⟩ := J.ti x0 x1
        obtain ⟨w3, w4⟩ := J.wi x0 x1
        have m1 := mul_sm (x := at_ ws x) (y := at_ ts j) (sm_of (by omega) (by omega)) (sm_of (by omega) (by omega))
        have m2 := mul_sm (x := at_ ws j) (y := at_ ts x) (sm_of (by omega) (by omega)) (sm_of (by omega) (by omega))
        by_cases q : at_ ws x * at_ ts j < at_ ws j * at_ ts x
        · have q2 : mn ts ws j x = at_ ws x * at_ ts j := by unfold mn; omega
          simp -implicitDefEqProofs [runF, exs, ex, evb, evi, evc, evo, ev, evs, getE, callD, argsAt, outsAt, outsOf, IEs.owns, binD, cmpD, biD, addD, subD, leD, ltD, isiD, truD, negD, isL, eq_int, itemsD, bindT, len_dI, sz0, sz1, sz2, sz3, sz4, sz5, sz6, kt1, kt2, kt3, kt4, kt5, kt6, kt7, kt8, kt9, kt10, kt11, kt12, kt13, kt14, kt15, a1, a2, b1, b2, m1, m2, q, q2]
        · have q2 : mn ts ws j x = at_ ws j * at_ ts x := by unfold mn; omega
          simp -implicitDefEqProofs [runF, exs, ex, evb, evi, evc, evo, ev, evs, getE, callD, argsAt, outsAt, outsOf, IEs.owns, binD, cmpD, biD, addD, subD, leD, ltD, isiD, truD, negD, isL, eq_int, itemsD, bindT, len_dI, sz0, sz1, sz2, sz3, sz4, sz5, sz6, kt1, kt2, kt3, kt4, kt5, kt6, kt7, kt8, kt9, kt10, kt11, kt12, kt13, kt14, kt15, a1, a2, b1, b2, m1, m2, q, q2])
      rw [dI_map]
      exact this
    unfold w_44_1
    refine (exs_next (ex_set el (fun h => by cases h) (by simp))).trans ?_
    have q : withF ts ws j = at_ ws j * at_ ts j + ((restF ts.length j).map (mn ts ws j)).sum := with_eq j0 j1
    have e3 := sum_dI ((restF ts.length j).map (mn ts ws j))
    have esum : ev (CF T k) (.bi .sum (.cons (.var 6) .nil)) [some g, some (dI ts), some (dI ws), some (.int ts.length), some (.int s), some (.int j), some (dI ((restF ts.length j).map (mn ts ws j))), none, none, none, none, none, none, none, none] = .ok (.int ((restF ts.length j).map (mn ts ws j)).sum) [some g, some (dI ts), some (dI ws), some (.int ts.length), some (.int s), some (.int j), some (dI ((restF ts.length j).map (mn ts ws j))), none, none, none, none, none, none, none, none] := ev_bi1 (x := dI ((restF ts.length j).map (mn ts ws j))) (by simp -implicitDefEqProofs [runF, exs, ex, evb, evi, evc, evo, ev, evs, getE, callD, argsAt, outsAt, outsOf, IEs.owns, binD, cmpD, biD, addD, subD, leD, ltD, isiD, truD, negD, isL, eq_int, itemsD, bindT, len_dI, sz0, sz1, sz2, sz3, sz4, sz5, sz6, kt1, kt2, kt3, kt4, kt5, kt6, kt7, kt8, kt9, kt10, kt11, kt12, kt13, kt14, kt15, ]) e3
    have eadd : ev (CF T k) (.bin .Add (.bin .Mult (.idx (.var 2) (.var 5)) (.idx (.var 1) (.var 5))) (.bi .sum (.cons (.var 6) .nil))) [some g, some (dI ts), some (dI ws), some (.int ts.length), some (.int s), some (.int j), some (dI ((restF ts.length j).map (mn ts ws j))), none, none, none, none, none, none, none, none] = .ok (.int (withF ts ws j)) [some g, some (dI ts), some (dI ws), some (.int ts.length), some (.int s), some (.int j), some (dI ((restF ts.length j).map (mn ts ws j))), none, none, none, none, none, none, none, none] := by
      refine ev_bin (env1 := [some g, some (dI ts), some (dI ws), some (.int ts.length), some (.int s), some (.int j), some (dI ((restF ts.length j).map (mn ts ws j))), none, none, none, none, none, none, none, none]) (x := .int (at_ ws j * at_ ts j)) (by simp -implicitDefEqProofs [runF, exs, ex, evb, evi, evc, evo, ev, evs, getE, callD, argsAt, outsAt, outsOf, IEs.owns, binD, cmpD, biD, addD, subD, leD, ltD, isiD, truD, negD, isL, eq_int, itemsD, bindT, len_dI, sz0, sz1, sz2, sz3, sz4, sz5, sz6, kt1, kt2, kt3, kt4, kt5, kt6, kt7, kt8, kt9, kt10, kt11, kt12, kt13, kt14, kt15, a1, a2, m0]) esum ?_
      rw [q]
      rfl
    refine (exs_next (ex_if0 ?_)).trans ?_
    · have ec : ev (CF T k) (.call 30 (.cons (.var 1) (.cons (.var 2) (.cons (.var 5) .nil)))) [some g, some (dI ts), some (dI ws), some (.int ts.length), some (.int s), some (.int j), some (dI ((restF ts.length j).map (mn ts ws j))), none, none, none, none, none, none, none, none] = .ok (.int (withF ts ws j)) [some g, some (dI ts), some (dI ws), some (.int ts.length), some (.int s), some (.int j), some (dI ((restF ts.length j).map (mn ts ws j))), none, none, none, none, none, none, none, none] := by simp -implicitDefEqProofs [runF, exs, ex, evb, evi, evc, evo, ev, evs, getE, callD, argsAt, outsAt, outsOf, IEs.owns, binD, cmpD, biD, addD, subD, leD, ltD, isiD, truD, negD, isL, eq_int, itemsD, bindT, len_dI, sz0, sz1, sz2, sz3, sz4, sz5, sz6, kt1, kt2, kt3, kt4, kt5, kt6, kt7, kt8, kt9, kt10, kt11, kt12, kt13, kt14, kt15, c1]
      simp only [List.set_cons_succ, List.set_cons_zero]
      unfold evb
      rw [ev, ec]
      simp only [Res.bind_ok]
      rw [eadd]
      simp -implicitDefEqProofs [runF, exs, ex, evb, evi, evc, evo, ev, evs, getE, callD, argsAt, outsAt, outsOf, IEs.owns, binD, cmpD, biD, addD, subD, leD, ltD, isiD, truD, negD, isL, eq_int, itemsD, bindT, len_dI, sz0, sz1, sz2, sz3, sz4, sz5, sz6, kt1, kt2, kt3, kt4, kt5, kt6, kt7, kt8, kt9, kt10, kt11, kt12, kt13, kt14, kt15, ]
    · exact (exs_next (ex_set (d := .int (s + withF ts ws j)) (env1 := [some g, some (dI ts), some (dI ws), some (.int ts.length), some (.int s), some (.int j), some (dI ((restF ts.length j).map (mn ts ws j))), none, none, none, none, none, none, none, none]) (by simp -implicitDefEqProofs [runF, exs, ex, evb, evi, evc, evo, ev, evs, getE, callD, argsAt, outsAt, outsOf, IEs.owns, binD, cmpD, biD, addD, subD, leD, ltD, isiD, truD, negD, isL, eq_int, itemsD, bindT, len_dI, sz0, sz1, sz2, sz3, sz4, sz5, sz6, kt1, kt2, kt3, kt4, kt5, kt6, kt7, kt8, kt9, kt10, kt11, kt12, kt13, kt14, kt15, c1]) (fun h => by cases h) (by simp))).trans exs_nil) 0 (none, none) trivial
  have hf : ∀ (l : List Int) (s : Int), l.foldl (fun (s : Int) (j : Int) => s + withF ts ws j) s = s + sm (withF ts ws) l := fun l => by
    induction l with
    | nil => intro s; simp [sm]
    | cons a l ih => intro s; rw [List.foldl_cons, ih, sm_cons, Int.add_assoc]
  rw [hf, Int.zero_add] at e
  exact ⟨o'.1, o'.2, e⟩
theorem sm_bd {f : Int → Int} {c : Int} : ∀ {l : List Int}, (∀ a ∈ l, 0 ≤ f a ∧ f a ≤ c) → 0 ≤ sm f l ∧ sm f l ≤ c * l.length
  | [], _ => by simp [sm]
  | a :: l, h => by
    obtain ⟨h1, h2⟩ := sm_bd (f := f) (c := c) (l := l) fun b hb => h b (List.mem_cons_of_mem _ hb)
    obtain ⟨h3, h4⟩ := h a (List.mem_cons_self ..)
    rw [sm_cons, List.length_cons]
    have : c * ((l.length + 1 : Nat) : Int) = c * l.length + c := by rw [Int.natCast_add, Int.mul_add]; simp
    omega
theorem pS_bd {m : Int → Int → Int} {c : Int} (hc : 0 ≤ c) : ∀ {l : List Int} {n : Nat}, l.length ≤ n → (∀ a ∈ l, ∀ b ∈ l, 0 ≤ m a b ∧ m a b ≤ c) → 0 ≤ pS m l ∧ pS m l ≤ c * n * l.length
  | [], n, _, _ => by simp [pS]
  | a :: l, n, hn, h => by
    rw [List.length_cons] at hn
    obtain ⟨h1, h2⟩ := pS_bd (m := m) hc (l := l) (n := n) (by omega) fun x hx y hy => h x (List.mem_cons_of_mem _ hx) y (List.mem_cons_of_mem _ hy)
    obtain ⟨h3, h4⟩ := sm_bd (f := m a) (c := c) (l := l) fun b hb => h a (List.mem_cons_self ..) b (List.mem_cons_of_mem _ hb)
    have h5 : c * (l.length : Int) ≤ c * n := Int.mul_le_mul_of_nonneg_left (by omega) hc
    rw [pS, List.length_cons]
    have : c * n * ((l.length + 1 : Nat) : Int) = c * n * l.length + c * n := by rw [Int.natCast_add, Int.mul_add]; simp
    omega
theorem prod_bd {a b : Int} (a0 : 0 ≤ a) (a1 : a ≤ 1000) (b0 : 0 ≤ b) (b1 : b ≤ 1000) : 0 ≤ a * b ∧ a * b ≤ 1000000 := by
  have h1 : 0 ≤ a * b := Int.mul_nonneg a0 b0
  have h2 : a * b ≤ 1000 * b := Int.mul_le_mul_of_nonneg_right a1 b0
  omega
theorem least_bd {ts ws : List Int} (J : Jb ts ws) : 0 ≤ leastF ts ws ∧ leastF ts ws ≤ 200000000 := by
  have hn := J.l2
  rw [leastF_eq]
  obtain ⟨a1, a2⟩ := sm_bd (f := fun j => at_ ws j * at_ ts j) (c := 1000000) (l := jobs ts.length) fun j hj => by
    obtain ⟨j0, j1⟩ := mem_jobs.mp hj
    obtain ⟨t1, t2⟩ := J.ti j0 j1
    obtain ⟨w1, w2⟩ := J.wi j0 j1
    exact prod_bd w1 w2 (by omega) t2
  obtain ⟨b1, b2⟩ := pS_bd (m := mn ts ws) (c := 1000000) (by omega) (l := jobs ts.length) (n := 12) (by rw [jobs_len]; exact hn) fun a ha b hb => by
    obtain ⟨j0, j1⟩ := mem_jobs.mp ha
    obtain ⟨i0, i1⟩ := mem_jobs.mp hb
    obtain ⟨t1, t2⟩ := J.ti j0 j1
    obtain ⟨w1, w2⟩ := J.wi j0 j1
    obtain ⟨t3, t4⟩ := J.ti i0 i1
    obtain ⟨w3, w4⟩ := J.wi i0 i1
    have p1 := prod_bd w1 w2 (by omega) t4
    have p2 := prod_bd w3 w4 (by omega) t2
    unfold mn
    omega
  rw [jobs_len] at a2 b2
  omega
def acrossF (ts ws ts2 ws2 : List Int) : Int := sm (fun a => sm (fun b => min (at_ ws a * at_ ts2 b) (at_ ws2 b * at_ ts a)) (jobs ts2.length)) (jobs ts.length)
theorem add_dI {xs ys : List Int} (h : xs.length + ys.length ≤ 1000) : addD (dI xs) (dI ys) = some (dI (xs ++ ys)) := by
  show (if (xs.map D.int).length + (ys.map D.int).length ≤ sizeLine then some (D.lst (xs.map D.int ++ ys.map D.int)) else none) = _
  rw [if_pos (by rw [List.length_map, List.length_map]; exact sz12 h), ← List.map_append]
theorem beside_at {k : Nat} (hk : 9 ≤ k) {m : Nat} {g : D} {ts ws : List Int} (hg : Gn m g) (hm : m + 4000 < M0) (J : Jobs ts ws) : ∃ g', CF T k 44 [g, dI ts, dI ws] = .ret (.bl true) [g'] ∧ Gn (m + 4000) g' := by
  obtain ⟨k, rfl⟩ : ∃ j, k = j + 1 := ⟨k - 1, by omega⟩
  have hn := J.l2
  have h1 := J.l1
  have lw := J.lw
  have r1 : rngOk (ts.length : Int) = true := rngOk_len (sz12 (by omega))
  obtain ⟨o5, o6, eloop⟩ := beside_loop (k := k) (by omega) J (g := g)
  have x1 := least_waiting_at (k := k) (by omega) J
  have wsum := with_sum ts ws
  generalize hal : sm (fun j => at_ ws j * at_ ts j) (jobs ts.length) = alone at *
  have start : exs (CF T k) f_44.body [some g, some (dI ts), some (dI ws), none, none, none, none, none, none, none, none, none, none, none, none] = exs (CF T k) (.cons s_44_9 (.cons s_44_10 (.cons s_44_11 (.cons s_44_12 (.cons s_44_13 (.cons s_44_14 .nil)))))) [some g, some (dI ts), some (dI ws), some (.int ts.length), some (.int (sm (withF ts ws) (jobs ts.length))), o5, o6, none, some (.int alone), none, none, none, none, none, none] := by
    refine (exs_next (env1 := [some g, some (dI ts), some (dI ws), some (.int ts.length), some (.int 0), none, none, none, none, none, none, none, none, none, none]) (by simp -implicitDefEqProofs [runF, exs, ex, evb, evi, evc, evo, ev, evs, getE, callD, argsAt, outsAt, outsOf, IEs.owns, binD, cmpD, biD, addD, subD, leD, ltD, isiD, truD, negD, isL, eq_int, itemsD, bindT, len_dI, sz0, sz1, sz2, sz3, sz4, sz5, sz6, kt1, kt2, kt3, kt4, kt5, kt6, kt7, kt8, kt9, kt10, kt11, kt12, kt13, kt14, kt15, s_44_5])).trans ?_
    refine (exs_next ((ex_for (ds := (jobs ts.length).map D.int) (env1 := [some g, some (dI ts), some (dI ws), some (.int ts.length), some (.int 0), none, none, none, none, none, none, none, none, none, none]) (by simp -implicitDefEqProofs [runF, exs, ex, evb, evi, evc, evo, ev, evs, getE, callD, argsAt, outsAt, outsOf, IEs.owns, binD, cmpD, biD, addD, subD, leD, ltD, isiD, truD, negD, isL, eq_int, itemsD, bindT, len_dI, sz0, sz1, sz2, sz3, sz4, sz5, sz6, kt1, kt2, kt3, kt4, kt5, kt6, kt7, kt8, kt9, kt10, kt11, kt12, kt13, kt14, kt15, r1, rng_jobs])).trans eloop)).trans ?_
    have el : ev (CF T k) l_44_2 [some g, some (dI ts), some (dI ws), some (.int ts.length), some (.int (sm (withF ts ws) (jobs ts.length))), o5, o6, none, none, none, none, none, none, none, none] = .ok (dI ((jobs ts.length).map fun j => at_ ws j * at_ ts j)) [some g, some (dI ts), some (dI ws), some (.int ts.length), some (.int (sm (withF ts ws) (jobs ts.length))), o5, o6, none, none, none, none, none, none, none, none] := by
      have := ev_lcm2 (α := Int) (C := CF T k) (i := 5) (j := 9) (it := .enum (.var 1)) (e := .bin .Mult (.idx (.var 2) (.var 5)) (.var 9)) (env := [some g, some (dI ts), some (dI ws), some (.int ts.length), some (.int (sm (withF ts ws) (jobs ts.length))), o5, o6, none, none, none, none, none, none, none, none]) (u := fun i => .int i) (v := fun i => .int (at_ ts i)) (g := fun i => .int (at_ ws i * at_ ts i)) (jobs ts.length) (by decide) (by simp) (by simp) (by
        simp -implicitDefEqProofs [runF, exs, ex, evb, evi, evc, evo, ev, evs, getE, callD, argsAt, outsAt, outsOf, IEs.owns, binD, cmpD, biD, addD, subD, leD, ltD, isiD, truD, negD, isL, eq_int, itemsD, bindT, len_dI, sz0, sz1, sz2, sz3, sz4, sz5, sz6, kt1, kt2, kt3, kt4, kt5, kt6, kt7, kt8, kt9, kt10, kt11, kt12, kt13, kt14, kt15, ]
        rw [enum_dI]
        unfold jobs
        rw [List.map_map]
        exact List.map_congr_left fun i _ => by simp [at_nat]) (sz12 (by rw [jobs_len]; omega)) (fun x hx => by
        obtain ⟨x0, x1⟩ := mem_jobs.mp hx
        have b2 := idx_at (xs := ws) x0 (by rw [lw]; exact x1)
        obtain ⟨t3, t4⟩ := J.ti x0 x1
        obtain ⟨w3, w4⟩ := J.wi x0 x1
        have m1 := mul_sm (x := at_ ws x) (y := at_ ts x) (sm_of (by omega) (by omega)) (sm_of (by omega) (by omega))
        simp -implicitDefEqProofs [runF, exs, ex, evb, evi, evc, evo, ev, evs, getE, callD, argsAt, outsAt, outsOf, IEs.owns, binD, cmpD, biD, addD, subD, leD, ltD, isiD, truD, negD, isL, eq_int, itemsD, bindT, len_dI, sz0, sz1, sz2, sz3, sz4, sz5, sz6, kt1, kt2, kt3, kt4, kt5, kt6, kt7, kt8, kt9, kt10, kt11, kt12, kt13, kt14, kt15, b2, m1])
      rw [dI_map]
      exact this
    refine (exs_next (ex_set (d := .int alone) (ev_bi1 el (by rw [sum_dI]; exact congrArg some (congrArg D.int hal))) (fun h => by cases h) (by simp))).trans ?_
    refine (exs_next (ex_if0 ?_)).trans rfl
    have hle : leastF ts ws = leastF ts ws := rfl
    have m2 : mulD (.int 2) (.int (leastF ts ws)) = some (.int (2 * leastF ts ws)) := by
      have := least_bd J.toJb
      exact mul_sm (sm_of (by omega) (by omega)) (sm_of (by omega) (by omega))
    simp -implicitDefEqProofs [runF, exs, ex, evb, evi, evc, evo, ev, evs, getE, callD, argsAt, outsAt, outsOf, IEs.owns, binD, cmpD, biD, addD, subD, leD, ltD, isiD, truD, negD, isL, eq_int, itemsD, bindT, len_dI, sz0, sz1, sz2, sz3, sz4, sz5, sz6, kt1, kt2, kt3, kt4, kt5, kt6, kt7, kt8, kt9, kt10, kt11, kt12, kt13, kt14, kt15, x1, m2, wsum]
  by_cases h6 : (6 : Int) < ts.length
  · refine ⟨g, ?_, gn_up hg (by omega)⟩
    rw [cf_44]
    refine runF_ret (env := [some g, some (dI ts), some (dI ws), some (.int ts.length), some (.int (sm (withF ts ws) (jobs ts.length))), o5, o6, none, some (.int alone), none, none, none, none, none, none]) ?_ rfl rfl rfl
    refine Eq.trans start ?_
    refine exs_ret ?_
    unfold s_44_9
    rw [ex_if (t := true) (env1 := [some g, some (dI ts), some (dI ws), some (.int ts.length), some (.int (sm (withF ts ws) (jobs ts.length))), o5, o6, none, some (.int alone), none, none, none, none, none, none]) (by simp -implicitDefEqProofs [runF, exs, ex, evb, evi, evc, evo, ev, evs, getE, callD, argsAt, outsAt, outsOf, IEs.owns, binD, cmpD, biD, addD, subD, leD, ltD, isiD, truD, negD, isL, eq_int, itemsD, bindT, len_dI, sz0, sz1, sz2, sz3, sz4, sz5, sz6, kt1, kt2, kt3, kt4, kt5, kt6, kt7, kt8, kt9, kt10, kt11, kt12, kt13, kt14, kt15, h6]), if_pos rfl]
    exact exs_ret (ex_ret (by simp -implicitDefEqProofs [runF, exs, ex, evb, evi, evc, evo, ev, evs, getE, callD, argsAt, outsAt, outsOf, IEs.owns, binD, cmpD, biD, addD, subD, leD, ltD, isiD, truD, negD, isL, eq_int, itemsD, bindT, len_dI, sz0, sz1, sz2, sz3, sz4, sz5, sz6, kt1, kt2, kt3, kt4, kt5, kt6, kt7, kt8, kt9, kt10, kt11, kt12, kt13, kt14, kt15, ]))
  · obtain ⟨ts2, g1, e1, l1, l2, ht, q1⟩ := times_at (k := k) (by omega) hg (by omega) (most := 6) (by omega) (by omega)
    obtain ⟨ws2, g2, e2, l3, hw, q2⟩ := weights_at (k := k) (by omega) q1 (by omega) (n := ts2.length) (least := 0) (by omega) (by omega) (by omega)
    have J2 : Jobs ts2 ws2 := ⟨⟨by omega, l3, ht, hw⟩, l1⟩
    have J3 : Jobs (ts ++ ts2) (ws ++ ws2) := ⟨⟨by rw [List.length_append]; omega, by rw [List.length_append, List.length_append]; omega, fun x hx => (List.mem_append.mp hx).elim (J.t x) (ht x), fun x hx => (List.mem_append.mp hx).elim (J.w x) (hw x)⟩, by rw [List.length_append]; omega⟩
    have x2 := least_waiting_at (k := k) (by omega) J2
    have x3 := least_waiting_at (k := k) (by omega) J3
    have la := least_app (ts := ts) (ws := ws) (ts2 := ts2) (ws2 := ws2) lw l3
    refine ⟨g2, ?_, gn_up q2 (by omega)⟩
    rw [cf_44]
    refine runF_ret (env := [some g2, some (dI ts), some (dI ws), some (.int ts.length), some (.int (sm (withF ts ws) (jobs ts.length))), o5, o6, none, some (.int alone), none, some (dI ts2), some (dI ws2), some (.int (leastF (ts ++ ts2) (ws ++ ws2))), some (.int (acrossF ts ws ts2 ws2)), none]) ?_ rfl rfl rfl
    refine Eq.trans start ?_
    have ad1 := add_dI (xs := ts) (ys := ts2) (by omega)
    have ad2 := add_dI (xs := ws) (ys := ws2) (by omega)
    have lw2 : ws2.length = ts2.length := l3
    have r2 : rngOk (ts2.length : Int) = true := rngOk_len (sz12 (by omega))
    refine (exs_next (ex_if0 (by simp -implicitDefEqProofs [runF, exs, ex, evb, evi, evc, evo, ev, evs, getE, callD, argsAt, outsAt, outsOf, IEs.owns, binD, cmpD, biD, addD, subD, leD, ltD, isiD, truD, negD, isL, eq_int, itemsD, bindT, len_dI, sz0, sz1, sz2, sz3, sz4, sz5, sz6, kt1, kt2, kt3, kt4, kt5, kt6, kt7, kt8, kt9, kt10, kt11, kt12, kt13, kt14, kt15, h6]))).trans ?_
    refine (exs_next (env1 := [some g1, some (dI ts), some (dI ws), some (.int ts.length), some (.int (sm (withF ts ws) (jobs ts.length))), o5, o6, none, some (.int alone), none, some (dI ts2), some (dI []), none, none, none]) (by simp -implicitDefEqProofs [runF, exs, ex, evb, evi, evc, evo, ev, evs, getE, callD, argsAt, outsAt, outsOf, IEs.owns, binD, cmpD, biD, addD, subD, leD, ltD, isiD, truD, negD, isL, eq_int, itemsD, bindT, len_dI, sz0, sz1, sz2, sz3, sz4, sz5, sz6, kt1, kt2, kt3, kt4, kt5, kt6, kt7, kt8, kt9, kt10, kt11, kt12, kt13, kt14, kt15, s_44_10, e1])).trans ?_
    refine (exs_next (env1 := [some g2, some (dI ts), some (dI ws), some (.int ts.length), some (.int (sm (withF ts ws) (jobs ts.length))), o5, o6, none, some (.int alone), none, some (dI ts2), some (dI ws2), none, none, none]) (by simp -implicitDefEqProofs [runF, exs, ex, evb, evi, evc, evo, ev, evs, getE, callD, argsAt, outsAt, outsOf, IEs.owns, binD, cmpD, biD, addD, subD, leD, ltD, isiD, truD, negD, isL, eq_int, itemsD, bindT, len_dI, sz0, sz1, sz2, sz3, sz4, sz5, sz6, kt1, kt2, kt3, kt4, kt5, kt6, kt7, kt8, kt9, kt10, kt11, kt12, kt13, kt14, kt15, s_44_11, e2])).trans ?_
    refine (exs_next (env1 := [some g2, some (dI ts), some (dI ws), some (.int ts.length), some (.int (sm (withF ts ws) (jobs ts.length))), o5, o6, none, some (.int alone), none, some (dI ts2), some (dI ws2), some (.int (leastF (ts ++ ts2) (ws ++ ws2))), none, none]) (ex_set (d := .int (leastF (ts ++ ts2) (ws ++ ws2))) (env1 := [some g2, some (dI ts), some (dI ws), some (.int ts.length), some (.int (sm (withF ts ws) (jobs ts.length))), o5, o6, none, some (.int alone), none, some (dI ts2), some (dI ws2), none, none, none]) ?ec (fun h => by cases h) (by simp))).trans ?_
    case ec =>
      have ea : ev (CF T k) (.bin .Add (.var 1) (.var 10)) [some g2, some (dI ts), some (dI ws), some (.int ts.length), some (.int (sm (withF ts ws) (jobs ts.length))), o5, o6, none, some (.int alone), none, some (dI ts2), some (dI ws2), none, none, none] = .ok (dI (ts ++ ts2)) [some g2, some (dI ts), some (dI ws), some (.int ts.length), some (.int (sm (withF ts ws) (jobs ts.length))), o5, o6, none, some (.int alone), none, some (dI ts2), some (dI ws2), none, none, none] := ev_bin (env1 := [some g2, some (dI ts), some (dI ws), some (.int ts.length), some (.int (sm (withF ts ws) (jobs ts.length))), o5, o6, none, some (.int alone), none, some (dI ts2), some (dI ws2), none, none, none]) (x := dI ts) (y := dI ts2) (by simp -implicitDefEqProofs [runF, exs, ex, evb, evi, evc, evo, ev, evs, getE, callD, argsAt, outsAt, outsOf, IEs.owns, binD, cmpD, biD, addD, subD, leD, ltD, isiD, truD, negD, isL, eq_int, itemsD, bindT, len_dI, sz0, sz1, sz2, sz3, sz4, sz5, sz6, kt1, kt2, kt3, kt4, kt5, kt6, kt7, kt8, kt9, kt10, kt11, kt12, kt13, kt14, kt15, ]) (by simp -implicitDefEqProofs [runF, exs, ex, evb, evi, evc, evo, ev, evs, getE, callD, argsAt, outsAt, outsOf, IEs.owns, binD, cmpD, biD, addD, subD, leD, ltD, isiD, truD, negD, isL, eq_int, itemsD, bindT, len_dI, sz0, sz1, sz2, sz3, sz4, sz5, sz6, kt1, kt2, kt3, kt4, kt5, kt6, kt7, kt8, kt9, kt10, kt11, kt12, kt13, kt14, kt15, ]) ad1
      have eb : ev (CF T k) (.bin .Add (.var 2) (.var 11)) [some g2, some (dI ts), some (dI ws), some (.int ts.length), some (.int (sm (withF ts ws) (jobs ts.length))), o5, o6, none, some (.int alone), none, some (dI ts2), some (dI ws2), none, none, none] = .ok (dI (ws ++ ws2)) [some g2, some (dI ts), some (dI ws), some (.int ts.length), some (.int (sm (withF ts ws) (jobs ts.length))), o5, o6, none, some (.int alone), none, some (dI ts2), some (dI ws2), none, none, none] := ev_bin (env1 := [some g2, some (dI ts), some (dI ws), some (.int ts.length), some (.int (sm (withF ts ws) (jobs ts.length))), o5, o6, none, some (.int alone), none, some (dI ts2), some (dI ws2), none, none, none]) (x := dI ws) (y := dI ws2) (by simp -implicitDefEqProofs [runF, exs, ex, evb, evi, evc, evo, ev, evs, getE, callD, argsAt, outsAt, outsOf, IEs.owns, binD, cmpD, biD, addD, subD, leD, ltD, isiD, truD, negD, isL, eq_int, itemsD, bindT, len_dI, sz0, sz1, sz2, sz3, sz4, sz5, sz6, kt1, kt2, kt3, kt4, kt5, kt6, kt7, kt8, kt9, kt10, kt11, kt12, kt13, kt14, kt15, ]) (by simp -implicitDefEqProofs [runF, exs, ex, evb, evi, evc, evo, ev, evs, getE, callD, argsAt, outsAt, outsOf, IEs.owns, binD, cmpD, biD, addD, subD, leD, ltD, isiD, truD, negD, isL, eq_int, itemsD, bindT, len_dI, sz0, sz1, sz2, sz3, sz4, sz5, sz6, kt1, kt2, kt3, kt4, kt5, kt6, kt7, kt8, kt9, kt10, kt11, kt12, kt13, kt14, kt15, ]) ad2
      rw [ev, evs, ea]
      simp only [Res.bind_ok]
      rw [evs, eb]
      simp only [Res.bind_ok, evs]
      simp -implicitDefEqProofs [runF, exs, ex, evb, evi, evc, evo, ev, evs, getE, callD, argsAt, outsAt, outsOf, IEs.owns, binD, cmpD, biD, addD, subD, leD, ltD, isiD, truD, negD, isL, eq_int, itemsD, bindT, len_dI, sz0, sz1, sz2, sz3, sz4, sz5, sz6, kt1, kt2, kt3, kt4, kt5, kt6, kt7, kt8, kt9, kt10, kt11, kt12, kt13, kt14, kt15, x3]
    have el3 : ∀ a ∈ jobs ts.length, ev (CF T k) l_44_3 [some g2, some (dI ts), some (dI ws), some (.int ts.length), some (.int (sm (withF ts ws) (jobs ts.length))), o5, o6, none, some (.int alone), none, some (dI ts2), some (dI ws2), some (.int (leastF (ts ++ ts2) (ws ++ ws2))), none, some (.int a)] = .ok (dI ((jobs ts2.length).map fun b => min (at_ ws a * at_ ts2 b) (at_ ws2 b * at_ ts a))) [some g2, some (dI ts), some (dI ws), some (.int ts.length), some (.int (sm (withF ts ws) (jobs ts.length))), o5, o6, none, some (.int alone), none, some (dI ts2), some (dI ws2), some (.int (leastF (ts ++ ts2) (ws ++ ws2))), none, some (.int a)] := fun a ha => by
      obtain ⟨a0, a1⟩ := mem_jobs.mp ha
      have c1 := idx_at (xs := ts) a0 a1
      have c2 := idx_at (xs := ws) a0 (by rw [lw]; exact a1)
      obtain ⟨t1, t2⟩ := J.ti a0 a1
      obtain ⟨w1, w2⟩ := J.wi a0 a1
      have := ev_lcm (α := Int) (C := CF T k) (i := 7) (it := .rng (.bi .len (.cons (.var 10) .nil))) (e := .bi .min (.cons (.bin .Mult (.idx (.var 2) (.var 14)) (.idx (.var 10) (.var 7))) (.cons (.bin .Mult (.idx (.var 11) (.var 7)) (.idx (.var 1) (.var 14))) .nil))) (env := [some g2, some (dI ts), some (dI ws), some (.int ts.length), some (.int (sm (withF ts ws) (jobs ts.length))), o5, o6, none, some (.int alone), none, some (dI ts2), some (dI ws2), some (.int (leastF (ts ++ ts2) (ws ++ ws2))), none, some (.int a)]) (g := fun b => .int (min (at_ ws a * at_ ts2 b) (at_ ws2 b * at_ ts a))) (inj := .int) (jobs ts2.length) (by simp) (by simp -implicitDefEqProofs [runF, exs, ex, evb, evi, evc, evo, ev, evs, getE, callD, argsAt, outsAt, outsOf, IEs.owns, binD, cmpD, biD, addD, subD, leD, ltD, isiD, truD, negD, isL, eq_int, itemsD, bindT, len_dI, sz0, sz1, sz2, sz3, sz4, sz5, sz6, kt1, kt2, kt3, kt4, kt5, kt6, kt7, kt8, kt9, kt10, kt11, kt12, kt13, kt14, kt15, r2, rng_jobs]) (sz12 (by rw [jobs_len]; omega)) (fun x hx => by
        obtain ⟨b0, b1⟩ := mem_jobs.mp hx
        have d1 := idx_at (xs := ts2) b0 b1
        have d2 := idx_at (xs := ws2) b0 (by rw [lw2]; exact b1)
        obtain ⟨t3, t4⟩ := J2.ti b0 b1
        obtain ⟨w3, w4⟩ := J2.wi b0 b1
        have m1 := mul_sm (x := at_ ws a) (y := at_ ts2 x) (sm_of (by omega) (by omega)) (sm_of (by omega) (by omega))
        have m2 := mul_sm (x := at_ ws2 x) (y := at_ ts a) (sm_of (by omega) (by omega)) (sm_of (by omega) (by omega))
        have m3 := min_D (at_ ws a * at_ ts2 x) (at_ ws2 x * at_ ts a)
        rw [ev]
        simp only [List.set_cons_succ, List.set_cons_zero]
        have : evs (CF T k) (.cons (.bin .Mult (.idx (.var 2) (.var 14)) (.idx (.var 10) (.var 7))) (.cons (.bin .Mult (.idx (.var 11) (.var 7)) (.idx (.var 1) (.var 14))) .nil)) [some g2, some (dI ts), some (dI ws), some (.int ts.length), some (.int (sm (withF ts ws) (jobs ts.length))), o5, o6, some (.int x), some (.int alone), none, some (dI ts2), some (dI ws2), some (.int (leastF (ts ++ ts2) (ws ++ ws2))), none, some (.int a)] = .ok [.int (at_ ws a * at_ ts2 x), .int (at_ ws2 x * at_ ts a)] [some g2, some (dI ts), some (dI ws), some (.int ts.length), some (.int (sm (withF ts ws) (jobs ts.length))), o5, o6, some (.int x), some (.int alone), none, some (dI ts2), some (dI ws2), some (.int (leastF (ts ++ ts2) (ws ++ ws2))), none, some (.int a)] := by
          simp -implicitDefEqProofs [runF, exs, ex, evb, evi, evc, evo, ev, evs, getE, callD, argsAt, outsAt, outsOf, IEs.owns, binD, cmpD, biD, addD, subD, leD, ltD, isiD, truD, negD, isL, eq_int, itemsD, bindT, len_dI, sz0, sz1, sz2, sz3, sz4, sz5, sz6, kt1, kt2, kt3, kt4, kt5, kt6, kt7, kt8, kt9, kt10, kt11, kt12, kt13, kt14, kt15, c1, c2, d1, d2, m1, m2]
        rw [this]
        simp only [Res.bind_ok]
        rw [m3]
        rfl)
      rw [dI_map]
      exact this
    have el4 : ev (CF T k) l_44_4 [some g2, some (dI ts), some (dI ws), some (.int ts.length), some (.int (sm (withF ts ws) (jobs ts.length))), o5, o6, none, some (.int alone), none, some (dI ts2), some (dI ws2), some (.int (leastF (ts ++ ts2) (ws ++ ws2))), none, none] = .ok (dI ((jobs ts.length).map fun a => sm (fun b => min (at_ ws a * at_ ts2 b) (at_ ws2 b * at_ ts a)) (jobs ts2.length))) [some g2, some (dI ts), some (dI ws), some (.int ts.length), some (.int (sm (withF ts ws) (jobs ts.length))), o5, o6, none, some (.int alone), none, some (dI ts2), some (dI ws2), some (.int (leastF (ts ++ ts2) (ws ++ ws2))), none, none] := by
      have := ev_lcm (α := Int) (C := CF T k) (i := 14) (it := .rng (.var 3)) (e := .bi .sum (.cons l_44_3 .nil)) (env := [some g2, some (dI ts), some (dI ws), some (.int ts.length), some (.int (sm (withF ts ws) (jobs ts.length))), o5, o6, none, some (.int alone), none, some (dI ts2), some (dI ws2), some (.int (leastF (ts ++ ts2) (ws ++ ws2))), none, none]) (g := fun a => .int (sm (fun b => min (at_ ws a * at_ ts2 b) (at_ ws2 b * at_ ts a)) (jobs ts2.length))) (inj := .int) (jobs ts.length) (by simp) (by simp -implicitDefEqProofs [runF, exs, ex, evb, evi, evc, evo, ev, evs, getE, callD, argsAt, outsAt, outsOf, IEs.owns, binD, cmpD, biD, addD, subD, leD, ltD, isiD, truD, negD, isL, eq_int, itemsD, bindT, len_dI, sz0, sz1, sz2, sz3, sz4, sz5, sz6, kt1, kt2, kt3, kt4, kt5, kt6, kt7, kt8, kt9, kt10, kt11, kt12, kt13, kt14, kt15, r1, rng_jobs]) (sz12 (by rw [jobs_len]; omega)) (fun x hx => by
        simp only [List.set_cons_succ, List.set_cons_zero]
        exact ev_bi1 (el3 x hx) (sum_dI _))
      rw [dI_map]
      exact this
    refine (exs_next (ex_set (d := .int (acrossF ts ws ts2 ws2)) (ev_bi1 el4 (sum_dI _)) (fun h => by cases h) (by simp))).trans ?_
    have q : leastF (ts ++ ts2) (ws ++ ws2) = leastF ts ws + leastF ts2 ws2 + acrossF ts ws ts2 ws2 := la
    refine exs_ret (ex_ret ?_)
    simp -implicitDefEqProofs [runF, exs, ex, evb, evi, evc, evo, ev, evs, getE, callD, argsAt, outsAt, outsOf, IEs.owns, binD, cmpD, biD, addD, subD, leD, ltD, isiD, truD, negD, isL, eq_int, itemsD, bindT, len_dI, sz0, sz1, sz2, sz3, sz4, sz5, sz6, kt1, kt2, kt3, kt4, kt5, kt6, kt7, kt8, kt9, kt10, kt11, kt12, kt13, kt14, kt15, x1, x2, q]
end LT
namespace LT
open PySem VI
/-! P5: lots by ratio, plainly -/
/-- what g must be: the other way round the other sign; what no exchange gains on goes on -/
structure Rt (g : Int → Int → Int) (n : Nat) : Prop where
  neg : ∀ a b, g b a = - g a b
  tr : Tr g n
theorem gn_rt {ts ws : List Int} (J : Jobs ts ws) : Rt (gn ts ws) ts.length := ⟨fun a b => by unfold gn; omega, gn_tr J⟩
section
variable {g : Int → Int → Int} {n : Nat}
theorem Rt.zero (R : Rt g n) (a : Int) : g a a = 0 := by have := R.neg a a; omega
theorem Rt.anti (R : Rt g n) : Anti g := fun a b h => by rw [R.neg]; omega
/-- of one ratio -/
theorem Rt.eqt (R : Rt g n) {a b c : Int} (ha : a ∈ jobs n) (hb : b ∈ jobs n) (hc : c ∈ jobs n) (h1 : g a b = 0) (h2 : g b c = 0) : g a c = 0 := by
  obtain ⟨a0, a1⟩ := mem_jobs.mp ha
  obtain ⟨b0, b1⟩ := mem_jobs.mp hb
  obtain ⟨c0, c1⟩ := mem_jobs.mp hc
  have t1 := R.tr a b c a0 a1 b0 b1 c0 c1 (by omega) (by omega)
  have t2 := R.tr c b a c0 c1 b0 b1 a0 a1 (by rw [R.neg b c]; omega) (by rw [R.neg a b]; omega)
  rw [R.neg a c] at t2
  omega
theorem pick_best (R : Rt g n) : ∀ (l : List Int) (f : Int), f ∈ jobs n → (∀ j ∈ l, j ∈ jobs n) → ∀ j ∈ f :: l, ¬ 0 < g (pickF g f l) j
  | [], f, _, _, j, hj => by
    have : j = f := by simpa using hj
    subst this
    show ¬ 0 < g j j
    rw [R.zero]; omega
  | x :: l, f, hf, hl, j, hj => by
    have hx := hl x (List.mem_cons_self ..)
    have hl' : ∀ j ∈ l, j ∈ jobs n := fun j h => hl j (List.mem_cons_of_mem _ h)
    show ¬ 0 < g (pickF g (if 0 < g f x then x else f) l) j
    by_cases h : 0 < g f x
    · rw [if_pos h]
      have ih := pick_best R l x hx hl'
      rcases List.mem_cons.mp hj with rfl | hj
      · have i1 := ih x (List.mem_cons_self ..)
        have pm : pickF g x l ∈ jobs n := (pick_mem g l x).elim (fun e => by rw [e]; exact hx) (hl' _)
        obtain ⟨a0, a1⟩ := mem_jobs.mp pm
        obtain ⟨b0, b1⟩ := mem_jobs.mp hx
        obtain ⟨c0, c1⟩ := mem_jobs.mp hf
        exact R.tr _ x j a0 a1 b0 b1 c0 c1 i1 (R.anti _ _ h)
      · exact ih j hj
    · rw [if_neg h]
      have ih := pick_best R l f hf hl'
      rcases List.mem_cons.mp hj with rfl | hj
      · exact ih _ (List.mem_cons_self ..)
      · rcases List.mem_cons.mp hj with rfl | hj
        · have i1 := ih f (List.mem_cons_self ..)
          have pm : pickF g f l ∈ jobs n := (pick_mem g l f).elim (fun e => by rw [e]; exact hf) (hl' _)
          obtain ⟨a0, a1⟩ := mem_jobs.mp pm
          obtain ⟨b0, b1⟩ := mem_jobs.mp hf
          obtain ⟨c0, c1⟩ := mem_jobs.mp hx
          exact R.tr _ f j a0 a1 b0 b1 c0 c1 i1 h
        · exact ih j (List.mem_cons_of_mem _ hj)
theorem byR_ok (R : Rt g n) : ∀ (m : Nat) (l : List Int), l.Nodup → l.length ≤ m → (∀ j ∈ l, j ∈ jobs n) → (byR g m l).Perm l ∧ Srt g (byR g m l)
  | 0, l, _, h, _ => by
    have : l = [] := List.length_eq_zero_iff.mp (by omega)
    subst this
    exact ⟨List.Perm.refl _, List.Pairwise.nil⟩
  | m + 1, [], _, _, _ => ⟨List.Perm.refl _, List.Pairwise.nil⟩
  | m + 1, a :: l, nd, h, hl => by
    have hin := pick_in g a l
    have e := nd.erase_eq_filter (pickF g a (a :: l))
    have hl2 : ((a :: l).filter fun j => !(j == pickF g a (a :: l))).length < (a :: l).length := List.length_filter_lt_length_iff_exists.mpr ⟨_, hin, by simp⟩
    obtain ⟨h1, h2⟩ := byR_ok R m ((a :: l).filter fun j => !(j == pickF g a (a :: l))) (nd.sublist List.filter_sublist) (by simp only [List.length_cons] at h hl2 ⊢; omega) fun j hj => hl j (List.mem_filter.mp hj).1
    unfold byR
    refine ⟨?_, List.pairwise_cons.mpr ⟨fun b hb => ?_, h2⟩⟩
    · refine (h1.cons _).trans ?_
      have := (List.perm_cons_erase hin).symm
      rw [e] at this
      exact this
    · have hb2 := (List.mem_filter.mp (h1.mem_iff.mp hb)).1
      exact pick_best R (a :: l) a (hl a (List.mem_cons_self ..)) hl b (List.mem_cons_of_mem _ hb2)
theorem row_ok (R : Rt g n) : (byR g n (jobs n)).Perm (jobs n) ∧ Srt g (byR g n (jobs n)) := byR_ok R n (jobs n) (jobs_nodup n) (by rw [jobs_len]; exact Nat.le_refl _) fun _ h => h
/-- all jobs of the ratio of a -/
def Cls (g : Int → Int → Int) (n : Nat) (a : Int) : List Int := (jobs n).filter fun b => decide (g a b = 0)
theorem mem_cls {a b : Int} : b ∈ Cls g n a ↔ b ∈ jobs n ∧ g a b = 0 := by
  unfold Cls
  rw [List.mem_filter]
  simp
/-- the lots: all classes, in falling ratio -/
structure RL (g : Int → Int → Int) (n : Nat) (L : List (List Int)) : Prop where
  cl : ∀ l ∈ L, ∃ a ∈ jobs n, l = Cls g n a
  al : ∀ a ∈ jobs n, Cls g n a ∈ L
  pw : L.Pairwise fun l m => ∀ a ∈ l, ∀ b ∈ m, g a b < 0
theorem eq_of_strict {α : Type} {r : α → α → Prop} : ∀ (L1 L2 : List α), L1.Pairwise r → L2.Pairwise r → (∀ x, x ∈ L1 ↔ x ∈ L2) → (∀ x y, x ∈ L1 → y ∈ L1 → r x y → ¬ r y x) → L1 = L2
  | [], [], _, _, _, _ => rfl
  | [], y :: L2, _, _, h, _ => by have := (h y).mpr (List.mem_cons_self ..); simp at this
  | x :: L1, [], _, _, h, _ => by have := (h x).mp (List.mem_cons_self ..); simp at this
  | x :: L1, y :: L2, p1, p2, h, ha => by
    obtain ⟨a1, b1⟩ := List.pairwise_cons.mp p1
    obtain ⟨a2, b2⟩ := List.pairwise_cons.mp p2
    have irr : ∀ z, z ∈ x :: L1 → ¬ r z z := fun z hz hr => ha z z hz hz hr hr
    have exy : x = y := by
      rcases List.mem_cons.mp ((h x).mp (List.mem_cons_self ..)) with e | hx
      · exact e
      · rcases List.mem_cons.mp ((h y).mpr (List.mem_cons_self ..)) with e | hy
        · exact e.symm
        · exact absurd (a2 x hx) (ha x y (List.mem_cons_self ..) (List.mem_cons_of_mem _ hy) (a1 y hy))
    subst exy
    refine congrArg _ (eq_of_strict L1 L2 b1 b2 (fun z => ?_) fun u v hu hv => ha u v (List.mem_cons_of_mem _ hu) (List.mem_cons_of_mem _ hv))
    constructor
    · intro hz
      rcases List.mem_cons.mp ((h z).mp (List.mem_cons_of_mem _ hz)) with e | hz2
      · subst e
        exact absurd (a1 z hz) (irr z (List.mem_cons_self ..))
      · exact hz2
    · intro hz
      rcases List.mem_cons.mp ((h z).mpr (List.mem_cons_of_mem _ hz)) with e | hz2
      · subst e
        exact absurd (a2 z hz) (irr z (List.mem_cons_self ..))
      · exact hz2
theorem RL.uniq (R : Rt g n) {L1 L2 : List (List Int)} (h1 : RL g n L1) (h2 : RL g n L2) : L1 = L2 := by
  refine eq_of_strict L1 L2 h1.pw h2.pw (fun x => ?_) fun x y hx hy r1 r2 => ?_
  · constructor
    · intro hx
      obtain ⟨a, ha, rfl⟩ := h1.cl x hx
      exact h2.al a ha
    · intro hx
      obtain ⟨a, ha, rfl⟩ := h2.cl x hx
      exact h1.al a ha
  · obtain ⟨a, ha, rfl⟩ := h1.cl x hx
    obtain ⟨b, hb, rfl⟩ := h1.cl y hy
    have a2 : a ∈ Cls g n a := mem_cls.mpr ⟨ha, R.zero a⟩
    have b2 : b ∈ Cls g n b := mem_cls.mpr ⟨hb, R.zero b⟩
    have := r1 a a2 b b2
    have := r2 b b2 a a2
    rw [R.neg a b] at this
    omega
/-- what the groups are while they are made -/
structure GI (g : Int → Int → Int) (p : List Int) (cs : List (List Int)) : Prop where
  fl : cs.flatten = p
  ne : ∀ l ∈ cs, l ≠ []
  eq : ∀ l ∈ cs, ∀ a ∈ l, ∀ b ∈ l, g a b = 0
  pw : cs.Pairwise fun l m => ∀ a ∈ l, ∀ b ∈ m, g a b < 0
theorem gi_step (R : Rt g n) {p : List Int} {cs : List (List Int)} {j : Int} (G : GI g p cs) (hp : ∀ a ∈ p, a ∈ jobs n) (hj : j ∈ jobs n) (hs : ∀ a ∈ p, ¬ 0 < g a j) : GI g (p ++ [j]) (addG g cs j) := by
  have inP : ∀ l ∈ cs, ∀ a ∈ l, a ∈ p := fun l hl a ha => by rw [← G.fl]; exact List.mem_flatten.mpr ⟨l, hl, ha⟩
  have zj : g j j = 0 := R.zero j
  unfold addG
  cases hc : cs.getLast? with
  | none =>
    have hcs : cs = [] := List.getLast?_eq_none_iff.mp hc
    subst hcs
    have hpn : p = [] := G.fl.symm
    subst hpn
    refine ⟨rfl, fun l hl => ?_, fun l hl a ha b hb => ?_, List.pairwise_singleton _ _⟩
    · have : l = [j] := by simpa using hl
      subst this
      simp
    · have : l = [j] := by simpa using hl
      subst this
      have e1 : a = j := by simpa using ha
      have e2 : b = j := by simpa using hb
      rw [e1, e2]; exact zj
  | some l =>
    simp only
    have hne : cs ≠ [] := fun z => by subst z; simp at hc
    have hl : l = cs.getLast hne := by rw [List.getLast?_eq_some_getLast hne] at hc; exact (Option.some.inj hc).symm
    have e : cs = cs.dropLast ++ [l] := by rw [hl]; exact (List.dropLast_concat_getLast hne).symm
    have hm : l ∈ cs := by rw [hl]; exact List.getLast_mem hne
    have hlne := G.ne l hm
    have hlp : 0 < l.length := List.length_pos_iff.mpr hlne
    have a0 : at_ l 0 ∈ l := at_mem (xs := l) (i := 0) hlp
    have hpw := G.pw
    rw [e] at hpw
    obtain ⟨pw1, _, pw2⟩ := List.pairwise_append.mp hpw
    have fl := G.fl
    rw [e, List.flatten_append] at fl
    have a0p := inP l hm _ a0
    have a0j := hp _ a0p
    split
    · rename_i hz
      have eqj : ∀ a ∈ l, g a j = 0 := fun a ha => R.eqt (hp _ (inP l hm a ha)) a0j hj (G.eq l hm a ha _ a0) hz
      refine ⟨?_, fun m hm2 => ?_, fun m hm2 a ha b hb => ?_, List.pairwise_append.mpr ⟨pw1, List.pairwise_singleton _ _, fun x hx y hy a ha b hb => ?_⟩⟩
      · rw [List.flatten_append, ← fl]
        simp
      · rcases List.mem_append.mp hm2 with q | q
        · exact G.ne m (List.dropLast_subset _ q)
        · have : m = l ++ [j] := by simpa using q
          subst this
          simp
      · rcases List.mem_append.mp hm2 with q | q
        · exact G.eq m (List.dropLast_subset _ q) a ha b hb
        · have : m = l ++ [j] := by simpa using q
          subst this
          rcases List.mem_append.mp ha with ha | ha <;> rcases List.mem_append.mp hb with hb | hb
          · exact G.eq l hm a ha b hb
          · have e2 : b = j := by simpa using hb
            rw [e2]; exact eqj a ha
          · have e2 : a = j := by simpa using ha
            rw [e2, R.neg, eqj b hb]; rfl
          · have e1 : a = j := by simpa using ha
            have e2 : b = j := by simpa using hb
            rw [e1, e2]; exact zj
      · have : y = l ++ [j] := by simpa using hy
        subst this
        have hlt := fun b hb => pw2 x hx l (by simp) a ha b hb
        rcases List.mem_append.mp hb with hb | hb
        · exact hlt b hb
        · have e2 : b = j := by simpa using hb
          subst e2
          have hap := inP x (List.dropLast_subset _ hx) a ha
          have h1 := hs a hap
          by_cases h2 : g a b = 0
          · have h3 := R.eqt (hp a hap) hj a0j h2 (by rw [R.neg, hz]; rfl)
            have := hlt _ a0
            omega
          · omega
    · rename_i hz
      have hz2 : g (at_ l 0) j < 0 := by have := hs _ a0p; omega
      refine ⟨?_, fun m hm2 => ?_, fun m hm2 a ha b hb => ?_, List.pairwise_append.mpr ⟨G.pw, List.pairwise_singleton _ _, fun x hx y hy a ha b hb => ?_⟩⟩
      · rw [List.flatten_append, G.fl]
        simp
      · rcases List.mem_append.mp hm2 with q | q
        · exact G.ne m q
        · have : m = [j] := by simpa using q
          subst this
          simp
      · rcases List.mem_append.mp hm2 with q | q
        · exact G.eq m q a ha b hb
        · have : m = [j] := by simpa using q
          subst this
          have e1 : a = j := by simpa using ha
          have e2 : b = j := by simpa using hb
          rw [e1, e2]; exact zj
      · have : y = [j] := by simpa using hy
        subst this
        have e2 : b = j := by simpa using hb
        subst e2
        have hap := inP x hx a ha
        have h1 := hs a hap
        by_cases h2 : g a b = 0
        · have h3 : g a (at_ l 0) ≤ 0 := by
            rw [e] at hx
            rcases List.mem_append.mp hx with hx | hx
            · have := pw2 x hx l (by simp) a ha _ a0
              omega
            · have : x = l := by simpa using hx
              subst this
              have := G.eq x hm a ha _ a0
              omega
          obtain ⟨q0, q1⟩ := mem_jobs.mp hj
          obtain ⟨r0, r1⟩ := mem_jobs.mp (hp a hap)
          obtain ⟨s0, s1⟩ := mem_jobs.mp a0j
          have := R.tr b a (at_ l 0) q0 q1 r0 r1 s0 s1 (by rw [R.neg a b, h2]; omega) (by omega)
          rw [R.neg (at_ l 0) b] at this
          omega
        · omega
theorem gi_all (R : Rt g n) : ∀ (q p : List Int) (cs : List (List Int)), GI g p cs → (∀ a ∈ p ++ q, a ∈ jobs n) → Srt g (p ++ q) → GI g (p ++ q) (q.foldl (addG g) cs)
  | [], p, cs, G, _, _ => by simpa using G
  | j :: q, p, cs, G, hp, hs => by
    have e : p ++ j :: q = (p ++ [j]) ++ q := by simp
    rw [e] at hp hs ⊢
    rw [List.foldl_cons]
    refine gi_all R q (p ++ [j]) (addG g cs j) (gi_step R G (fun a ha => hp a (by simp [ha])) (hp j (by simp)) fun a ha => ?_) hp hs
    have := (List.pairwise_append.mp (List.pairwise_append.mp hs).1).2.2
    exact this a ha j (by simp)
/-- the lots that are told -/
theorem lots_RL (R : Rt g n) : RL g n (lotsF g (byR g n (jobs n))) := by
  obtain ⟨pm, sr⟩ := row_ok R
  show RL g n (((byR g n (jobs n)).foldl (addG g) []).map sortI)
  generalize byR g n (jobs n) = row at *
  have hrow : ∀ a ∈ row, a ∈ jobs n := fun a ha => pm.mem_iff.mp ha
  have G : GI g row (row.foldl (addG g) []) := gi_all R row [] [] ⟨rfl, by simp, by simp, List.Pairwise.nil⟩ (by simpa using hrow) (by simpa using sr)
  generalize row.foldl (addG g) [] = cs at *
  have ndr : row.Nodup := pm.nodup_iff.mpr (jobs_nodup n)
  have inR : ∀ l ∈ cs, ∀ a ∈ l, a ∈ row := fun l hl a ha => by rw [← G.fl]; exact List.mem_flatten.mpr ⟨l, hl, ha⟩
  have strict : ∀ l ∈ cs, ∀ m ∈ cs, ∀ a ∈ l, ∀ b ∈ m, g a b = 0 → l = m := fun l hl m hm a ha b hb h0 => by
    obtain ⟨i, hi, rfl⟩ := List.mem_iff_getElem.mp hl
    obtain ⟨k, hk, rfl⟩ := List.mem_iff_getElem.mp hm
    have pw := List.pairwise_iff_getElem.mp G.pw
    rcases Nat.lt_trichotomy i k with h | h | h
    · have := pw i k hi hk h a ha b hb; omega
    · subst h; rfl
    · have := pw k i hk hi h b hb a ha
      rw [R.neg a b] at this
      omega
  have isCls : ∀ l ∈ cs, ∀ a ∈ l, sortI l = Cls g n a := fun l hl a ha => by
    refine (sortI_eq (ns := l) (ms := Cls g n a) ?_ ?_).symm
    · have ndl : l.Nodup := by
        have : (cs.flatten).Nodup := by rw [G.fl]; exact ndr
        exact this.sublist (List.sublist_flatten_of_mem hl)
      refine (List.perm_ext_iff_of_nodup ((jobs_nodup n).sublist List.filter_sublist) ndl).mpr fun b => ?_
      show b ∈ Cls g n a ↔ b ∈ l
      rw [mem_cls]
      constructor
      · rintro ⟨hb, h0⟩
        have hbr : b ∈ row := pm.mem_iff.mpr hb
        rw [← G.fl] at hbr
        obtain ⟨m, hm, hbm⟩ := List.mem_flatten.mp hbr
        rw [strict l hl m hm a ha b hbm h0]
        exact hbm
      · intro hb
        exact ⟨hrow b (inR l hl b hb), G.eq l hl a ha b hb⟩
    · refine List.Pairwise.sublist List.filter_sublist ?_
      unfold jobs
      rw [List.pairwise_map]
      exact List.Pairwise.imp (fun h => by omega) List.pairwise_lt_range
  refine ⟨fun l hl => ?_, fun a ha => ?_, ?_⟩
  · obtain ⟨m, hm, rfl⟩ := List.mem_map.mp hl
    obtain ⟨a, ha⟩ := List.exists_mem_of_ne_nil m (G.ne m hm)
    exact ⟨a, hrow a (inR m hm a ha), isCls m hm a ha⟩
  · have har : a ∈ row := pm.mem_iff.mpr ha
    rw [← G.fl] at har
    obtain ⟨m, hm, ham⟩ := List.mem_flatten.mp har
    exact List.mem_map.mpr ⟨m, hm, isCls m hm a ham⟩
  · rw [List.pairwise_map]
    refine List.Pairwise.imp (fun {l m} h a ha b hb => ?_) G.pw
    exact h a ((List.mergeSort_perm l _).mem_iff.mp ha) b ((List.mergeSort_perm m _).mem_iff.mp hb)
/-- the other way round -/
theorem RL.rev (R : Rt g n) {L : List (List Int)} (h : RL g n L) : RL (fun a b => g b a) n L.reverse where
  cl := fun l hl => by
    obtain ⟨a, ha, rfl⟩ := h.cl l (List.mem_reverse.mp hl)
    refine ⟨a, ha, ?_⟩
    unfold Cls
    refine List.filter_congr fun b _ => ?_
    have := R.neg a b
    by_cases q : g a b = 0
    · simp [q, this]
    · have : ¬ g b a = 0 := by omega
      simp [q, this]
  al := fun a ha => by
    have := h.al a ha
    rw [List.mem_reverse]
    have e : Cls (fun a b => g b a) n a = Cls g n a := by
      unfold Cls
      refine List.filter_congr fun b _ => ?_
      have := R.neg a b
      by_cases q : g a b = 0
      · simp [q, this]
      · have : ¬ g b a = 0 := by omega
        simp [q, this]
    rw [e]; exact this
  pw := by
    rw [List.pairwise_reverse]
    exact h.pw.imp fun {l m} hlm a ha b hb => hlm b hb a ha
end
end LT
namespace LT
open PySem VI
/-! W9: rows turned -/
theorem gn_dual_fun (ts ws : List Int) : gn ws ts = fun a b => gn ts ws b a := funext fun a => funext fun b => dual_gn ts ws a b
theorem lots_dual {ts ws : List Int} (J : Jobs ts ws) (J2 : Jobs ws ts) : lotsOf ws ts = (lotsOf ts ws).reverse := by
  have h1 : RL (gn ws ts) ws.length (lotsOf ws ts) := lots_RL (gn_rt J2)
  have h2 : RL (gn ts ws) ts.length (lotsOf ts ws) := lots_RL (gn_rt J)
  have h3 := h2.rev (gn_rt J)
  rw [← gn_dual_fun, ← J.lw] at h3
  exact RL.uniq (gn_rt J2) h1 h3
theorem foldl_mul (f : List Int → Int) : ∀ (L : List (List Int)) (s : Int), L.foldl (fun (s : Int) (l : List Int) => s * f l) s = s * L.foldl (fun (s : Int) (l : List Int) => s * f l) 1
  | [], s => by simp
  | l :: L, s => by
    rw [List.foldl_cons, List.foldl_cons, foldl_mul f L (s * f l), foldl_mul f L (1 * f l), Int.one_mul, Int.mul_assoc]
theorem countF_cons (l : List Int) (L : List (List Int)) : countF (l :: L) = fac l.length * countF L := by
  unfold countF
  rw [List.foldl_cons, foldl_mul (fun l => fac l.length), Int.one_mul]
theorem countF_perm {L M : List (List Int)} (p : L.Perm M) : countF L = countF M := by
  induction p with
  | nil => rfl
  | cons a _ ih => rw [countF_cons, countF_cons, ih]
  | swap a b l => rw [countF_cons, countF_cons, countF_cons, countF_cons, Int.mul_left_comm]
  | trans _ _ h1 h2 => exact h1.trans h2
theorem best_dual {ts ws r : List Int} (J : Jobs ts ws) (J2 : Jobs ws ts) (h : IsRow ts.length r) : bestF (gn ws ts) r.reverse = bestF (gn ts ws) r := by
  have h1 := best_iff (gn_tr J2) (r := r.reverse) (by rw [J.lw]; exact (h.perm (List.reverse_perm r)).rg)
  have h2 := best_iff (gn_tr J) (r := r) h.rg
  rw [gn_dual_fun, srt_rev, ← gn_dual_fun, ← h2] at h1
  cases a : bestF (gn ws ts) r.reverse <;> cases b : bestF (gn ts ws) r <;> rw [a, b] at h1 <;> simp at h1 <;> rfl
theorem sum_jobs (xs : List Int) : xs.sum = sm (at_ xs) (jobs xs.length) := by
  unfold sm
  rw [jobs_map]
theorem cost_bd {ts ws r : List Int} (J : Jobs ts ws) (h : IsRow ts.length r) : 0 ≤ costF ts ws r ∧ costF ts ws r ≤ 200000000 := by
  have hn := J.l2
  rw [costF_eq h, cR_pairs]
  obtain ⟨a1, a2⟩ := sm_bd (f := fun j => at_ ws j * at_ ts j) (c := 1000000) (l := r) fun j hj => by
    obtain ⟨j0, j1⟩ := h.rg j hj
    obtain ⟨t1, t2⟩ := J.ti j0 j1
    obtain ⟨w1, w2⟩ := J.wi j0 j1
    exact prod_bd w1 w2 (by omega) t2
  obtain ⟨b1, b2⟩ := pS_bd (m := fun a b => at_ ws b * at_ ts a) (c := 1000000) (by omega) (l := r) (n := 12) (by rw [h.len]; exact hn) fun a ha b hb => by
    obtain ⟨j0, j1⟩ := h.rg a ha
    obtain ⟨i0, i1⟩ := h.rg b hb
    obtain ⟨t1, t2⟩ := J.ti j0 j1
    obtain ⟨w3, w4⟩ := J.wi i0 i1
    exact prod_bd w3 w4 (by omega) t2
  rw [h.len] at a2 b2
  omega
theorem min_ws {ws : List Int} (h : ws ≠ []) : ∃ m, biD .min [dI ws] = some (.int m) ∧ m ∈ ws ∧ ∀ x ∈ ws, m ≤ x := by
  cases hm : ws.min? with
  | none => exact absurd (List.min?_eq_none_iff.mp hm) h
  | some m =>
    obtain ⟨h1, h2⟩ := List.min?_eq_some_iff.mp hm
    refine ⟨m, ?_, h1, h2⟩
    show (intsOf (ws.map .int)).bind (fun ns => ns.min?.map D.int) = _
    rw [intsOf_map]
    simp only [Option.bind_some]
    rw [hm]
    rfl
theorem pl_ints (n : Nat) {xs : List Int} (h : xs.length ≤ 1000) : Pl (n + 1) (dI xs) := .lst n _ (fun d hd => by
  obtain ⟨i, _, rfl⟩ := List.mem_map.mp hd
  exact .int n i) (by rw [List.length_map]; omega)
theorem pl_lots {n : Nat} {L : List (List Int)} (h : L.length ≤ 1000) (h2 : ∀ l ∈ L, l.length ≤ 1000) : Pl (n + 2) (dL L) := .lst (n + 1) _ (fun d hd => by
  obtain ⟨l, hl, rfl⟩ := List.mem_map.mp hd
  exact pl_ints n (h2 l hl)) (by rw [List.length_map]; omega)
theorem lots_len {ts ws : List Int} (J : Jobs ts ws) : (lotsOf ts ws).length ≤ 12 ∧ ∀ l ∈ lotsOf ts ws, 1 ≤ l.length ∧ l.length ≤ 12 := by
  have hn := J.l2
  obtain ⟨_, G⟩ := alike_lots_at (k := 3) (by omega) J
  have hbl := byR_len (gn ts ws) ts.length (jobs ts.length)
  obtain ⟨g1, g2⟩ := grp_len G
  refine ⟨?_, fun l hl => ?_⟩
  · show ((_ : List (List Int)).map sortI).length ≤ 12
    rw [List.length_map]
    exact Nat.le_trans g1 (Nat.le_trans hbl hn)
  · obtain ⟨c, hc, rfl⟩ := List.mem_map.mp hl
    have a1 := List.length_pos_iff.mpr (G.1 c hc).1
    have a2 := g2 c hc
    rw [sortI_len]
    omega
def bothF (ts ws : List Int) : Int := sm (fun j => at_ ws j * (sm (at_ ts) (jobs ts.length) + at_ ts j)) (jobs ts.length)
theorem turned_at {k : Nat} (hk : 9 ≤ k) {ts ws r : List Int} (J : Jobs ts ws) (h : IsRow ts.length r) : CF T k 42 [dI ts, dI ws, dI r] = .ret (.bl true) [] := by
  obtain ⟨k, rfl⟩ : ∃ j, k = j + 1 := ⟨k - 1, by omega⟩
  have hn := J.l2
  have h1 := J.l1
  have lw := J.lw
  have hb := h.perm (List.reverse_perm r)
  obtain ⟨fb1, fb2⟩ := sm_bd (f := at_ ts) (c := 1000) (l := jobs ts.length) fun j hj => by
    obtain ⟨j0, j1⟩ := mem_jobs.mp hj
    obtain ⟨t1, t2⟩ := J.ti j0 j1
    omega
  rw [jobs_len] at fb2
  have hsum := sum_jobs ts
  generalize hF : sm (at_ ts) (jobs ts.length) = full at *
  have c1 := waiting_cost_at (k := k) (by omega) J h
  have c2 := waiting_cost_at (k := k) (by omega) J hb
  have tc : costF ts ws r + costF ts ws r.reverse = bothF ts ws := turn_cost h
  have s1 : biD .sum [dI ts] = some (.int full) := by rw [sum_dI, hsum]
  have el : ev (CF T k) l_42_0 [some (dI ts), some (dI ws), some (dI r), some (.int full), some (dI r.reverse), none, none, none, none, none] = .ok (dI ((jobs ts.length).map fun j => at_ ws j * (full + at_ ts j))) [some (dI ts), some (dI ws), some (dI r), some (.int full), some (dI r.reverse), none, none, none, none, none] := by
    have := ev_lcm2 (α := Int) (C := CF T k) (i := 6) (j := 7) (it := .enum (.var 0)) (e := .bin .Mult (.idx (.var 1) (.var 6)) (.bin .Add (.var 3) (.var 7))) (env := [some (dI ts), some (dI ws), some (dI r), some (.int full), some (dI r.reverse), none, none, none, none, none]) (u := fun i => .int i) (v := fun i => .int (at_ ts i)) (g := fun j => .int (at_ ws j * (full + at_ ts j))) (jobs ts.length) (by decide) (by simp) (by simp) (by
      simp -implicitDefEqProofs [runF, exs, ex, evb, evi, evc, evo, ev, evs, getE, callD, argsAt, outsAt, outsOf, IEs.owns, binD, cmpD, biD, addD, subD, leD, ltD, isiD, truD, negD, isL, eq_int, itemsD, bindT, len_dI, sz0, sz1, sz2, sz3, sz4, sz5, sz6, kt1, kt2, kt3, kt4, kt5, kt6, kt7, kt8, kt9, kt10, kt11, kt12, kt13, kt14, kt15, ]
      rw [enum_dI]
      unfold jobs
      rw [List.map_map]
      exact List.map_congr_left fun i _ => by simp [at_nat]) (sz12 (by rw [jobs_len]; omega)) (fun x hx => by
      obtain ⟨x0, x1⟩ := mem_jobs.mp hx
      have b2 := idx_at (xs := ws) x0 (by rw [lw]; exact x1)
      obtain ⟨t3, t4⟩ := J.ti x0 x1
      obtain ⟨w3, w4⟩ := J.wi x0 x1
      have m1 := mul_sm (x := at_ ws x) (y := full + at_ ts x) (sm_of (by omega) (by omega)) (sm_of (by omega) (by omega))
      simp -implicitDefEqProofs [runF, exs, ex, evb, evi, evc, evo, ev, evs, getE, callD, argsAt, outsAt, outsOf, IEs.owns, binD, cmpD, biD, addD, subD, leD, ltD, isiD, truD, negD, isL, eq_int, itemsD, bindT, len_dI, sz0, sz1, sz2, sz3, sz4, sz5, sz6, kt1, kt2, kt3, kt4, kt5, kt6, kt7, kt8, kt9, kt10, kt11, kt12, kt13, kt14, kt15, b2, m1])
    rw [dI_map]
    exact this
  have e2 : biD .sum [dI ((jobs ts.length).map fun j => at_ ws j * (full + at_ ts j))] = some (.int (bothF ts ws)) := by
    rw [sum_dI]
    unfold bothF
    rw [hF]
    rfl
  obtain ⟨mw, hmw, mw1, mw2⟩ := min_ws (ws := ws) (fun z => by subst z; simp at lw; omega)
  have start : exs (CF T k) f_42.body [some (dI ts), some (dI ws), some (dI r), none, none, none, none, none, none, none] = exs (CF T k) (.cons s_42_4 (.cons s_42_5 (.cons s_42_6 (.cons s_42_7 .nil)))) [some (dI ts), some (dI ws), some (dI r), some (.int full), some (dI r.reverse), some (.int (bothF ts ws)), none, none, none, none] := by
    refine (exs_next (env1 := [some (dI ts), some (dI ws), some (dI r), some (.int full), some (dI r.reverse), none, none, none, none, none]) ?_).trans ?_
    · have es : ev (CF T k) (.bi .sum (.cons (.var 0) .nil)) [some (dI ts), some (dI ws), some (dI r), none, none, none, none, none, none, none] = .ok (.int full) [some (dI ts), some (dI ws), some (dI r), none, none, none, none, none, none, none] := ev_bi1 (x := dI ts) (by simp -implicitDefEqProofs [runF, exs, ex, evb, evi, evc, evo, ev, evs, getE, callD, argsAt, outsAt, outsOf, IEs.owns, binD, cmpD, biD, addD, subD, leD, ltD, isiD, truD, negD, isL, eq_int, itemsD, bindT, len_dI, sz0, sz1, sz2, sz3, sz4, sz5, sz6, kt1, kt2, kt3, kt4, kt5, kt6, kt7, kt8, kt9, kt10, kt11, kt12, kt13, kt14, kt15, ]) s1
      have er : ev (CF T k) (.rev (.var 2)) [some (dI ts), some (dI ws), some (dI r), none, none, none, none, none, none, none] = .ok (dI r.reverse) [some (dI ts), some (dI ws), some (dI r), none, none, none, none, none, none, none] := by simp -implicitDefEqProofs [runF, exs, ex, evb, evi, evc, evo, ev, evs, getE, callD, argsAt, outsAt, outsOf, IEs.owns, binD, cmpD, biD, addD, subD, leD, ltD, isiD, truD, negD, isL, eq_int, itemsD, bindT, len_dI, sz0, sz1, sz2, sz3, sz4, sz5, sz6, kt1, kt2, kt3, kt4, kt5, kt6, kt7, kt8, kt9, kt10, kt11, kt12, kt13, kt14, kt15, List.map_reverse]
      unfold s_42_1
      rw [ex, ev, evs, es]
      simp only [Res.bind_ok, evs, er]
      simp -implicitDefEqProofs [runF, exs, ex, evb, evi, evc, evo, ev, evs, getE, callD, argsAt, outsAt, outsOf, IEs.owns, binD, cmpD, biD, addD, subD, leD, ltD, isiD, truD, negD, isL, eq_int, itemsD, bindT, len_dI, sz0, sz1, sz2, sz3, sz4, sz5, sz6, kt1, kt2, kt3, kt4, kt5, kt6, kt7, kt8, kt9, kt10, kt11, kt12, kt13, kt14, kt15, ]
    · refine (exs_next (ex_set (ev_bi1 el e2) (fun h => by cases h) (by simp))).trans ?_
      refine (exs_next (ex_if0 ?_)).trans rfl
      simp -implicitDefEqProofs [runF, exs, ex, evb, evi, evc, evo, ev, evs, getE, callD, argsAt, outsAt, outsOf, IEs.owns, binD, cmpD, biD, addD, subD, leD, ltD, isiD, truD, negD, isL, eq_int, itemsD, bindT, len_dI, sz0, sz1, sz2, sz3, sz4, sz5, sz6, kt1, kt2, kt3, kt4, kt5, kt6, kt7, kt8, kt9, kt10, kt11, kt12, kt13, kt14, kt15, c1, c2, tc]
  rw [cf_42]
  by_cases hm : mw < 1
  · refine runF_ret (env := [some (dI ts), some (dI ws), some (dI r), some (.int full), some (dI r.reverse), some (.int (bothF ts ws)), none, none, none, none]) ?_ rfl rfl rfl
    refine Eq.trans start ?_
    refine exs_ret ?_
    have ec : evb (CF T k) (.cmp .Lt (.bi .min (.cons (.var 1) .nil)) (.int 1)) [some (dI ts), some (dI ws), some (dI r), some (.int full), some (dI r.reverse), some (.int (bothF ts ws)), none, none, none, none] = .ok true [some (dI ts), some (dI ws), some (dI r), some (.int full), some (dI r.reverse), some (.int (bothF ts ws)), none, none, none, none] := by
      have em : ev (CF T k) (.bi .min (.cons (.var 1) .nil)) [some (dI ts), some (dI ws), some (dI r), some (.int full), some (dI r.reverse), some (.int (bothF ts ws)), none, none, none, none] = .ok (.int mw) [some (dI ts), some (dI ws), some (dI r), some (.int full), some (dI r.reverse), some (.int (bothF ts ws)), none, none, none, none] := ev_bi1 (x := dI ws) (by simp -implicitDefEqProofs [runF, exs, ex, evb, evi, evc, evo, ev, evs, getE, callD, argsAt, outsAt, outsOf, IEs.owns, binD, cmpD, biD, addD, subD, leD, ltD, isiD, truD, negD, isL, eq_int, itemsD, bindT, len_dI, sz0, sz1, sz2, sz3, sz4, sz5, sz6, kt1, kt2, kt3, kt4, kt5, kt6, kt7, kt8, kt9, kt10, kt11, kt12, kt13, kt14, kt15, ]) hmw
      unfold evb
      rw [ev, em]
      simp -implicitDefEqProofs [runF, exs, ex, evb, evi, evc, evo, ev, evs, getE, callD, argsAt, outsAt, outsOf, IEs.owns, binD, cmpD, biD, addD, subD, leD, ltD, isiD, truD, negD, isL, eq_int, itemsD, bindT, len_dI, sz0, sz1, sz2, sz3, sz4, sz5, sz6, kt1, kt2, kt3, kt4, kt5, kt6, kt7, kt8, kt9, kt10, kt11, kt12, kt13, kt14, kt15, hm]
    unfold s_42_4
    rw [ex_if ec, if_pos rfl]
    exact exs_ret (ex_ret (by simp -implicitDefEqProofs [runF, exs, ex, evb, evi, evc, evo, ev, evs, getE, callD, argsAt, outsAt, outsOf, IEs.owns, binD, cmpD, biD, addD, subD, leD, ltD, isiD, truD, negD, isL, eq_int, itemsD, bindT, len_dI, sz0, sz1, sz2, sz3, sz4, sz5, sz6, kt1, kt2, kt3, kt4, kt5, kt6, kt7, kt8, kt9, kt10, kt11, kt12, kt13, kt14, kt15, ]))
  · have J2 : Jobs ws ts := ⟨⟨by omega, by omega, fun x hx => by have := mw2 x hx; have := J.w x hx; omega, fun x hx => by have := J.t x hx; omega⟩, by omega⟩
    have hb2 : IsRow ws.length r.reverse := by rw [lw]; exact hb
    have d1 := waiting_cost_at (k := k) (by omega) J2 hb2
    rw [dual_cost lw h] at d1
    have d2 := least_waiting_at (k := k) (by omega) J2
    rw [dual_least lw] at d2
    have d3 := is_best_waiting_row_at (k := k) (by omega) J2 hb2
    rw [best_dual J J2 h] at d3
    have d4 := lots_by_ratio_at (k := k) (by omega) J2
    rw [lots_dual J J2] at d4
    have d5 := count_at (k := k) (by omega) J2
    rw [lots_dual J J2, countF_perm (List.reverse_perm _)] at d5
    have x2 := least_waiting_at (k := k) (by omega) J
    have x3 := is_best_waiting_row_at (k := k) (by omega) J h
    have x4 := lots_by_ratio_at (k := k) (by omega) J
    have x5 := count_at (k := k) (by omega) J
    obtain ⟨ll1, ll2⟩ := lots_len J
    generalize lotsOf ts ws = L at *
    generalize hV : D.lst [.int (costF ts ws r), .int (leastF ts ws), .bl (bestF (gn ts ws) r), dL L.reverse, .int (countF L)] = V
    have pl : Pl 3 V := by
      subst hV
      refine .lst 2 _ (fun d hd => ?_) (by simp)
      simp only [List.mem_cons, List.not_mem_nil, or_false] at hd
      rcases hd with rfl | rfl | rfl | rfl | rfl
      · exact .int _ _
      · exact .int _ _
      · exact .bl _ _
      · exact pl_lots (by rw [List.length_reverse]; omega) fun l hl => by have := ll2 l (List.mem_reverse.mp hl); omega
      · exact .int _ _
    have exx := exact_at 3 (k := k) V (by omega) pl
    refine runF_ret (env := [some (dI ts), some (dI ws), some (dI r), some (.int full), some (dI r.reverse), some (.int (bothF ts ws)), none, none, some V, some V]) ?_ rfl rfl rfl
    refine Eq.trans start ?_
    refine (exs_next (ex_if0 ?_)).trans ?_
    · have em : ev (CF T k) (.bi .min (.cons (.var 1) .nil)) [some (dI ts), some (dI ws), some (dI r), some (.int full), some (dI r.reverse), some (.int (bothF ts ws)), none, none, none, none] = .ok (.int mw) [some (dI ts), some (dI ws), some (dI r), some (.int full), some (dI r.reverse), some (.int (bothF ts ws)), none, none, none, none] := ev_bi1 (x := dI ws) (by simp -implicitDefEqProofs [runF, exs, ex, evb, evi, evc, evo, ev, evs, getE, callD, argsAt, outsAt, outsOf, IEs.owns, binD, cmpD, biD, addD, subD, leD, ltD, isiD, truD, negD, isL, eq_int, itemsD, bindT, len_dI, sz0, sz1, sz2, sz3, sz4, sz5, sz6, kt1, kt2, kt3, kt4, kt5, kt6, kt7, kt8, kt9, kt10, kt11, kt12, kt13, kt14, kt15, ]) hmw
      unfold evb
      rw [ev, em]
      simp -implicitDefEqProofs [runF, exs, ex, evb, evi, evc, evo, ev, evs, getE, callD, argsAt, outsAt, outsOf, IEs.owns, binD, cmpD, biD, addD, subD, leD, ltD, isiD, truD, negD, isL, eq_int, itemsD, bindT, len_dI, sz0, sz1, sz2, sz3, sz4, sz5, sz6, kt1, kt2, kt3, kt4, kt5, kt6, kt7, kt8, kt9, kt10, kt11, kt12, kt13, kt14, kt15, hm]
    · refine (exs_next (env1 := [some (dI ts), some (dI ws), some (dI r), some (.int full), some (dI r.reverse), some (.int (bothF ts ws)), none, none, some V, none]) (by
        rw [← hV]
        simp -implicitDefEqProofs [runF, exs, ex, evb, evi, evc, evo, ev, evs, getE, callD, argsAt, outsAt, outsOf, IEs.owns, binD, cmpD, biD, addD, subD, leD, ltD, isiD, truD, negD, isL, eq_int, itemsD, bindT, len_dI, sz0, sz1, sz2, sz3, sz4, sz5, sz6, kt1, kt2, kt3, kt4, kt5, kt6, kt7, kt8, kt9, kt10, kt11, kt12, kt13, kt14, kt15, s_42_5, d1, d2, d3, d4, d5])).trans ?_
      refine (exs_next (env1 := [some (dI ts), some (dI ws), some (dI r), some (.int full), some (dI r.reverse), some (.int (bothF ts ws)), none, none, some V, some V]) (ex_set (d := V) (env1 := [some (dI ts), some (dI ws), some (dI r), some (.int full), some (dI r.reverse), some (.int (bothF ts ws)), none, none, some V, none]) ?_ (fun h => by cases h) (by simp))).trans ?_
      · have er : ev (CF T k) (.rev (.call 29 (.cons (.var 0) (.cons (.var 1) .nil)))) [some (dI ts), some (dI ws), some (dI r), some (.int full), some (dI r.reverse), some (.int (bothF ts ws)), none, none, some V, none] = .ok (dL L.reverse) [some (dI ts), some (dI ws), some (dI r), some (.int full), some (dI r.reverse), some (.int (bothF ts ws)), none, none, some V, none] := by
          simp -implicitDefEqProofs [runF, exs, ex, evb, evi, evc, evo, ev, evs, getE, callD, argsAt, outsAt, outsOf, IEs.owns, binD, cmpD, biD, addD, subD, leD, ltD, isiD, truD, negD, isL, eq_int, itemsD, bindT, len_dI, sz0, sz1, sz2, sz3, sz4, sz5, sz6, kt1, kt2, kt3, kt4, kt5, kt6, kt7, kt8, kt9, kt10, kt11, kt12, kt13, kt14, kt15, x4, dL]
        have ev5 : evs (CF T k) (.cons (.call 15 (.cons (.var 0) (.cons (.var 1) (.cons (.var 2) .nil)))) (.cons (.call 17 (.cons (.var 0) (.cons (.var 1) .nil))) (.cons (.call 21 (.cons (.var 0) (.cons (.var 1) (.cons (.var 2) .nil)))) (.cons (.rev (.call 29 (.cons (.var 0) (.cons (.var 1) .nil)))) (.cons (.call 28 (.cons (.var 0) (.cons (.var 1) .nil))) .nil))))) [some (dI ts), some (dI ws), some (dI r), some (.int full), some (dI r.reverse), some (.int (bothF ts ws)), none, none, some V, none] = .ok [.int (costF ts ws r), .int (leastF ts ws), .bl (bestF (gn ts ws) r), dL L.reverse, .int (countF L)] [some (dI ts), some (dI ws), some (dI r), some (.int full), some (dI r.reverse), some (.int (bothF ts ws)), none, none, some V, none] := by
          generalize hR : IE.rev (.call 29 (.cons (.var 0) (.cons (.var 1) .nil))) = R at er
          simp -implicitDefEqProofs [runF, exs, ex, evb, evi, evc, evo, ev, evs, getE, callD, argsAt, outsAt, outsOf, IEs.owns, binD, cmpD, biD, addD, subD, leD, ltD, isiD, truD, negD, isL, eq_int, itemsD, bindT, len_dI, sz0, sz1, sz2, sz3, sz4, sz5, sz6, kt1, kt2, kt3, kt4, kt5, kt6, kt7, kt8, kt9, kt10, kt11, kt12, kt13, kt14, kt15, er, c1, x2, x3, x5]
        show ev (CF T k) (.lst (.cons (.call 15 (.cons (.var 0) (.cons (.var 1) (.cons (.var 2) .nil)))) (.cons (.call 17 (.cons (.var 0) (.cons (.var 1) .nil))) (.cons (.call 21 (.cons (.var 0) (.cons (.var 1) (.cons (.var 2) .nil)))) (.cons (.rev (.call 29 (.cons (.var 0) (.cons (.var 1) .nil)))) (.cons (.call 28 (.cons (.var 0) (.cons (.var 1) .nil))) .nil)))))) _ = _
        rw [ev, ev5]
        simp only [Res.bind_ok]
        rw [if_pos (by show 5 ≤ sizeLine; exact sz_le (by omega)), hV]
      · exact exs_ret (ex_ret (by simp -implicitDefEqProofs [runF, exs, ex, evb, evi, evc, evo, ev, evs, getE, callD, argsAt, outsAt, outsOf, IEs.owns, binD, cmpD, biD, addD, subD, leD, ltD, isiD, truD, negD, isL, eq_int, itemsD, bindT, len_dI, sz0, sz1, sz2, sz3, sz4, sz5, sz6, kt1, kt2, kt3, kt4, kt5, kt6, kt7, kt8, kt9, kt10, kt11, kt12, kt13, kt14, kt15, exx]))
end LT
namespace LT
open PySem VI
/-! P6: lots with one alike job more; lots of jobs numbered anew -/
theorem fac_succ {m : Nat} (h : 1 ≤ m) : fac (m + 1) = ((m : Int) + 1) * fac m := by
  obtain ⟨q, rfl⟩ : ∃ q, m = q + 1 := ⟨m - 1, by omega⟩
  unfold fac
  have e1 : q + 1 + 1 - 1 = q + 1 := by omega
  have e2 : q + 1 - 1 = q := by omega
  rw [e1, e2, List.range_succ, List.foldl_append]
  simp only [List.foldl_cons, List.foldl_nil]
  rw [Int.mul_comm]
  congr 1
  omega
theorem lots_rl {ts ws : List Int} (J : Jobs ts ws) : RL (gn ts ws) ts.length (lotsOf ts ws) := lots_RL (gn_rt J)
def putN (n job : Int) (l : List Int) : List Int := if job ∈ l then sortI (l ++ [n]) else l
section
variable {ts ws : List Int} {job : Int}
theorem split_jobs (J : Jobs ts ws) (h0 : 0 ≤ job) (h1 : job < ts.length) (hn : ts.length ≤ 11) : Jobs (ts ++ [at_ ts job]) (ws ++ [at_ ws job]) := by
  obtain ⟨t1, t2⟩ := J.ti h0 h1
  obtain ⟨w1, w2⟩ := J.wi h0 h1
  have lw := J.lw
  refine ⟨⟨by simp; omega, by simp; omega, fun x hx => ?_, fun x hx => ?_⟩, by simp⟩
  · rcases List.mem_append.mp hx with q | q
    · exact J.t x q
    · have : x = at_ ts job := by simpa using q
      subst this
      exact ⟨t1, t2⟩
  · rcases List.mem_append.mp hx with q | q
    · exact J.w x q
    · have : x = at_ ws job := by simpa using q
      subst this
      exact ⟨w1, w2⟩
theorem at_snoc {xs : List Int} {x : Int} : at_ (xs ++ [x]) xs.length = x := by
  have := at_app2 (xs := xs) (ys := [x]) (i := 0) (by omega)
  rw [Int.add_zero] at this
  rw [this]
  rfl
def fN (n job i : Int) : Int := if i = n then job else i
theorem gn_split (lw : ws.length = ts.length) {a b : Int} (ha : a ∈ jobs (ts.length + 1)) (hb : b ∈ jobs (ts.length + 1)) : gn (ts ++ [at_ ts job]) (ws ++ [at_ ws job]) a b = gn ts ws (fN ts.length job a) (fN ts.length job b) := by
  have key : ∀ {a : Int}, a ∈ jobs (ts.length + 1) → at_ (ts ++ [at_ ts job]) a = at_ ts (fN ts.length job a) ∧ at_ (ws ++ [at_ ws job]) a = at_ ws (fN ts.length job a) := fun {a} ha => by
    unfold fN
    by_cases e : a = ts.length
    · subst e
      rw [if_pos rfl, at_snoc, ← lw, at_snoc]
      exact ⟨rfl, rfl⟩
    · rw [if_neg e]
      obtain ⟨a0, a1⟩ := mem_jobs.mp ha
      have : a ∈ jobs ts.length := mem_jobs.mpr ⟨a0, by omega⟩
      exact ⟨at_app1 this, at_app1 (by rw [lw]; exact this)⟩
  unfold gn
  rw [(key ha).1, (key ha).2, (key hb).1, (key hb).2]
theorem cls_split (lw : ws.length = ts.length) (hj : job ∈ jobs ts.length) {a : Int} (ha : a ∈ jobs ts.length) : Cls (gn (ts ++ [at_ ts job]) (ws ++ [at_ ws job])) (ts.length + 1) a = putN ts.length job (Cls (gn ts ws) ts.length a) := by
  have lt : ∀ {b : Int}, b ∈ jobs ts.length → b ∈ jobs (ts.length + 1) ∧ b ≠ ts.length := fun {b} hb => by
    obtain ⟨b0, b1⟩ := mem_jobs.mp hb
    exact ⟨mem_jobs.mpr ⟨b0, by omega⟩, by omega⟩
  have fa : fN ts.length job a = a := if_neg (lt ha).2
  have hn : ((ts.length : Nat) : Int) ∈ jobs (ts.length + 1) := mem_jobs.mpr ⟨by omega, by omega⟩
  have e1 : Cls (gn (ts ++ [at_ ts job]) (ws ++ [at_ ws job])) (ts.length + 1) a = Cls (gn ts ws) ts.length a ++ if gn ts ws a job = 0 then [(ts.length : Int)] else [] := by
    unfold Cls
    rw [jobs_succ, List.filter_append]
    congr 1
    · refine List.filter_congr fun b hb => ?_
      rw [gn_split lw (lt ha).1 (lt hb).1, fa]
      rw [show fN ts.length job b = b from if_neg (lt hb).2]
    · have q := gn_split (ts := ts) (ws := ws) (job := job) lw (lt ha).1 hn
      rw [fa, show fN ts.length job ((ts.length : Nat) : Int) = job from if_pos rfl] at q
      by_cases z : gn ts ws a job = 0
      · rw [if_pos z, List.filter_cons_of_pos (by simp [q, z])]
        rfl
      · rw [if_neg z, List.filter_cons_of_neg (by simp [q, z])]
        rfl
  rw [e1]
  unfold putN
  by_cases z : gn ts ws a job = 0
  · rw [if_pos z, if_pos (mem_cls.mpr ⟨hj, z⟩)]
    refine sortI_eq (List.Perm.refl _) (List.pairwise_append.mpr ⟨?_, List.pairwise_singleton _ _, fun x hx y hy => ?_⟩)
    · refine List.Pairwise.sublist List.filter_sublist ?_
      unfold jobs
      rw [List.pairwise_map]
      exact List.Pairwise.imp (fun h => by omega) List.pairwise_lt_range
    · have : y = ts.length := by simpa using hy
      subst this
      obtain ⟨x0, x1⟩ := mem_jobs.mp (mem_cls.mp hx).1
      omega
  · rw [if_neg z, if_neg fun m => z (mem_cls.mp m).2, List.append_nil]
/-- the lots with one alike job more -/
theorem lots_split (J : Jobs ts ws) (h0 : 0 ≤ job) (h1 : job < ts.length) (hn : ts.length ≤ 11) : lotsOf (ts ++ [at_ ts job]) (ws ++ [at_ ws job]) = (lotsOf ts ws).map (putN ts.length job) := by
  have J2 := split_jobs J h0 h1 hn
  have hj : job ∈ jobs ts.length := mem_jobs.mpr ⟨h0, h1⟩
  have lw := J.lw
  have hl : (ts ++ [at_ ts job]).length = ts.length + 1 := by simp
  have r1 := lots_rl J2
  have R2 := gn_rt J2
  rw [hl] at r1 R2
  have r2 := lots_rl J
  refine RL.uniq R2 r1 ⟨fun l hl => ?_, fun a ha => ?_, ?_⟩
  · obtain ⟨m, hm, rfl⟩ := List.mem_map.mp hl
    obtain ⟨a, ha, rfl⟩ := r2.cl m hm
    obtain ⟨a0, a1⟩ := mem_jobs.mp ha
    exact ⟨a, mem_jobs.mpr ⟨a0, by omega⟩, (cls_split lw hj ha).symm⟩
  · obtain ⟨a0, a1⟩ := mem_jobs.mp ha
    by_cases e : a = ts.length
    · have e2 : Cls (gn (ts ++ [at_ ts job]) (ws ++ [at_ ws job])) (ts.length + 1) a = Cls (gn (ts ++ [at_ ts job]) (ws ++ [at_ ws job])) (ts.length + 1) job := by
        unfold Cls
        refine List.filter_congr fun b hb => ?_
        have hj2 : job ∈ jobs (ts.length + 1) := mem_jobs.mpr ⟨h0, by omega⟩
        rw [gn_split lw ha hb, gn_split lw hj2 hb, show fN ts.length job a = job from if_pos e, show fN ts.length job job = job from by unfold fN; split <;> rfl]
      rw [e2, cls_split lw hj hj]
      exact List.mem_map.mpr ⟨_, r2.al job hj, rfl⟩
    · have ha2 : a ∈ jobs ts.length := mem_jobs.mpr ⟨a0, by omega⟩
      rw [cls_split lw hj ha2]
      exact List.mem_map.mpr ⟨_, r2.al a ha2, rfl⟩
  · rw [List.pairwise_map]
    refine List.Pairwise.imp_of_mem (fun {l m} hl hm h => ?_) r2.pw
    have key : ∀ l ∈ lotsOf ts ws, ∀ a ∈ putN ts.length job l, fN ts.length job a ∈ l ∧ a ∈ jobs (ts.length + 1) := fun l hl a ha => by
      obtain ⟨c, hc, rfl⟩ := r2.cl l hl
      unfold putN at ha
      have old : ∀ {a : Int}, a ∈ Cls (gn ts ws) ts.length c → fN ts.length job a ∈ Cls (gn ts ws) ts.length c ∧ a ∈ jobs (ts.length + 1) := fun {a} ha => by
        obtain ⟨a0, a1⟩ := mem_jobs.mp (mem_cls.mp ha).1
        have : fN ts.length job a = a := if_neg (by omega)
        rw [this]
        exact ⟨ha, mem_jobs.mpr ⟨a0, by omega⟩⟩
      split at ha
      · rename_i hjc
        have ha2 := (List.mergeSort_perm _ _).mem_iff.mp ha
        rcases List.mem_append.mp ha2 with q | q
        · exact old q
        · have : a = ts.length := by simpa using q
          subst this
          refine ⟨?_, mem_jobs.mpr ⟨by omega, by omega⟩⟩
          rw [show fN ts.length job ((ts.length : Nat) : Int) = job from if_pos rfl]
          exact hjc
      · exact old ha
    intro a ha b hb
    obtain ⟨p1, p2⟩ := key l hl a ha
    obtain ⟨q1, q2⟩ := key m hm b hb
    rw [gn_split lw p2 q2]
    exact h _ p1 _ q1
end
end LT
namespace LT
open PySem VI
/-! WA: a job split into alike ones -/
theorem toPys_ints : ∀ (xs : List Int), toPys (xs.map D.int) = some (xs.map PyData.int)
  | [] => by unfold toPys; rfl
  | x :: xs => by
    rw [List.map_cons, toPys, toPys_ints xs, toPy]
    rfl
theorem inD_dI (y : Int) (xs : List Int) : inD (.int y) (dI xs) = some (decide (y ∈ xs)) := by
  have h1 : toPy (.int y) = some (.int y) := by unfold toPy; rfl
  have h2 : toPy (dI xs) = some (.list (xs.map PyData.int)) := by
    unfold dI toPy
    rw [toPys_ints]
    rfl
  obtain ⟨p, e1, e2⟩ := sh_shaped (n := 1) (d := dI xs) (by
    show (xs.map D.int).all (shD 0) = true
    rw [List.all_map]
    exact List.all_eq_true.mpr fun _ _ => rfl) (by omega)
  rw [h2] at e1
  cases e1
  obtain ⟨q, e3, e4⟩ := sh_shaped (n := 0) (d := .int y) (by rfl) (by omega)
  rw [h1] at e3
  cases e3
  unfold inD
  rw [h1, h2]
  simp only [e2, e4, Bool.and_self, if_true]
  congr 1
  rw [List.any_map]
  have : (fun z => PyData.eqv z (.int y)) ∘ PyData.int = fun i => i == y := by
    funext i
    simp [PyData.eqv]
  rw [this]
  by_cases h : y ∈ xs
  · simp [h]
  · rw [decide_eq_false h, List.any_eq_false]
    intro i hi
    have : i ≠ y := fun e => h (e ▸ hi)
    simpa using this
theorem fac_bd {m : Nat} (h1 : 1 ≤ m) (h2 : m ≤ 12) : (fac m).natAbs < 2 ^ 48 := (product_to_at (k := 1) (by omega) h1 h2).2
theorem count_bd : ∀ {L : List (List Int)}, (∀ l ∈ L, 1 ≤ l.length ∧ l.length ≤ 12) → (countF L).natAbs < 2 ^ (48 * (L.length + 1))
  | [], _ => by decide
  | l :: L, h => by
    have h1 := fac_bd (h l (List.mem_cons_self ..)).1 (h l (List.mem_cons_self ..)).2
    have h2 := count_bd (L := L) fun m hm => h m (List.mem_cons_of_mem _ hm)
    rw [countF_cons, Int.natAbs_mul, List.length_cons]
    have : 2 ^ (48 * (L.length + 1 + 1)) = 2 ^ 48 * 2 ^ (48 * (L.length + 1)) := by rw [← Nat.pow_add]; congr 1; omega
    rw [this]
    exact Nat.mul_lt_mul'' h1 h2
/-- the lot that holds the job, among the others -/
theorem lots_cut {ts ws : List Int} {job : Int} (J : Jobs ts ws) (h0 : 0 ≤ job) (h1 : job < ts.length) : ∃ A B l, lotsOf ts ws = A ++ l :: B ∧ job ∈ l ∧ (∀ m ∈ A ++ B, job ∉ m) ∧ ∀ m ∈ A ++ l :: B, ∀ i ∈ m, i < ts.length := by
  have r := lots_rl J
  have R := gn_rt J
  have hj : job ∈ jobs ts.length := mem_jobs.mpr ⟨h0, h1⟩
  obtain ⟨A, B, e⟩ := List.append_of_mem (r.al job hj)
  have hin : job ∈ Cls (gn ts ws) ts.length job := mem_cls.mpr ⟨hj, R.zero job⟩
  have pw := r.pw
  rw [e] at pw
  obtain ⟨_, p2, p3⟩ := List.pairwise_append.mp pw
  obtain ⟨p4, _⟩ := List.pairwise_cons.mp p2
  have z := R.zero job
  refine ⟨A, B, _, e, hin, fun m hm hjm => ?_, fun m hm i hi => ?_⟩
  · rcases List.mem_append.mp hm with q | q
    · have := p3 m q _ (List.mem_cons_self ..) job hjm job hin
      omega
    · have := p4 m q job hin job hjm
      omega
  · rw [← e] at hm
    obtain ⟨a, _, rfl⟩ := r.cl m hm
    exact (mem_jobs.mp (mem_cls.mp hi).1).2
theorem due_cut {n job : Int} {A B : List (List Int)} {l : List Int} (hj : job ∈ l) (hn : ∀ m ∈ A ++ B, job ∉ m) : (A ++ l :: B).map (putN n job) = A ++ sortI (l ++ [n]) :: B := by
  have key : ∀ C : List (List Int), (∀ m ∈ C, job ∉ m) → C.map (putN n job) = C := fun C hC => by
    have : C.map (putN n job) = C.map id := List.map_congr_left fun m hm => if_neg (hC m hm)
    rw [this, List.map_id]
  rw [List.map_append, List.map_cons, key A fun m hm => hn m (List.mem_append_left _ hm), key B fun m hm => hn m (List.mem_append_right _ hm)]
  congr 2
  exact if_pos hj
theorem count_cut {n : Int} {A B : List (List Int)} {l : List Int} (hl : 1 ≤ l.length) : countF (A ++ sortI (l ++ [n]) :: B) = ((l.length : Int) + 1) * countF (A ++ l :: B) := by
  have p1 : (A ++ sortI (l ++ [n]) :: B).Perm (sortI (l ++ [n]) :: (A ++ B)) := List.perm_middle
  have p2 : (A ++ l :: B).Perm (l :: (A ++ B)) := List.perm_middle
  rw [countF_perm p1, countF_perm p2, countF_cons, countF_cons, sortI_len, List.length_append, List.length_singleton, fac_succ hl, Int.mul_assoc]
theorem split_at {k : Nat} (hk : 9 ≤ k) {m : Nat} {g : D} {ts ws : List Int} (hg : Gn m g) (hm : m + 200 < M0) (J : Jobs ts ws) : ∃ g', CF T k 45 [g, dI ts, dI ws] = .ret (.bl true) [g'] ∧ Gn (m + 200) g' := by
  obtain ⟨k, rfl⟩ : ∃ j, k = j + 1 := ⟨k - 1, by omega⟩
  have hn := J.l2
  have l1 := J.l1
  have lw := J.lw
  by_cases h11 : (11 : Int) < ts.length
  · refine ⟨g, ?_, gn_up hg (by omega)⟩
    rw [cf_45]
    refine runF_ret (env := [some g, some (dI ts), some (dI ws), none, none, none, none, none, none, none, none]) ?_ rfl rfl rfl
    show exs (CF T k) f_45.body [some g, some (dI ts), some (dI ws), none, none, none, none, none, none, none, none] = _
    refine exs_ret ?_
    unfold s_45_2
    rw [ex_if (t := true) (env1 := [some g, some (dI ts), some (dI ws), none, none, none, none, none, none, none, none]) (by simp -implicitDefEqProofs [runF, exs, ex, evb, evi, evc, evo, ev, evs, getE, callD, argsAt, outsAt, outsOf, IEs.owns, binD, cmpD, biD, addD, subD, leD, ltD, isiD, truD, negD, isL, eq_int, itemsD, bindT, len_dI, sz0, sz1, sz2, sz3, sz4, sz5, sz6, kt1, kt2, kt3, kt4, kt5, kt6, kt7, kt8, kt9, kt10, kt11, kt12, kt13, kt14, kt15, h11]), if_pos rfl]
    exact exs_ret (ex_ret (by simp -implicitDefEqProofs [runF, exs, ex, evb, evi, evc, evo, ev, evs, getE, callD, argsAt, outsAt, outsOf, IEs.owns, binD, cmpD, biD, addD, subD, leD, ltD, isiD, truD, negD, isL, eq_int, itemsD, bindT, len_dI, sz0, sz1, sz2, sz3, sz4, sz5, sz6, kt1, kt2, kt3, kt4, kt5, kt6, kt7, kt8, kt9, kt10, kt11, kt12, kt13, kt14, kt15, ]))
  · obtain ⟨job, g1, e1, j0, j1, q1⟩ := rnd_at (k := k) (by omega) m 5 g ts.length hg (by omega) (by omega) (by omega) (m0 (by omega))
    have a1 := idx_at (xs := ts) j0 j1
    have a2 := idx_at (xs := ws) j0 (by rw [lw]; exact j1)
    obtain ⟨t1, t2⟩ := J.ti j0 j1
    obtain ⟨w1, w2⟩ := J.wi j0 j1
    have m1 := mul_sm (x := at_ ws job) (y := 2) (sm_of (by omega) (by omega)) (sm_of (by omega) (by omega))
    refine ⟨g1, ?_, gn_up q1 (by omega)⟩
    rw [cf_45]
    have start : exs (CF T k) f_45.body [some g, some (dI ts), some (dI ws), none, none, none, none, none, none, none, none] = exs (CF T k) (.cons s_45_4 (.cons s_45_5 (.cons s_45_6 (.cons s_45_7 (.cons s_45_8 (.cons s_45_9 .nil)))))) [some g1, some (dI ts), some (dI ws), some (.int job), none, none, none, none, none, none, none] := by
      refine (exs_next (ex_if0 (by simp -implicitDefEqProofs [runF, exs, ex, evb, evi, evc, evo, ev, evs, getE, callD, argsAt, outsAt, outsOf, IEs.owns, binD, cmpD, biD, addD, subD, leD, ltD, isiD, truD, negD, isL, eq_int, itemsD, bindT, len_dI, sz0, sz1, sz2, sz3, sz4, sz5, sz6, kt1, kt2, kt3, kt4, kt5, kt6, kt7, kt8, kt9, kt10, kt11, kt12, kt13, kt14, kt15, h11]))).trans ?_
      exact (exs_next (env1 := [some g1, some (dI ts), some (dI ws), some (.int job), none, none, none, none, none, none, none]) (by simp -implicitDefEqProofs [runF, exs, ex, evb, evi, evc, evo, ev, evs, getE, callD, argsAt, outsAt, outsOf, IEs.owns, binD, cmpD, biD, addD, subD, leD, ltD, isiD, truD, negD, isL, eq_int, itemsD, bindT, len_dI, sz0, sz1, sz2, sz3, sz4, sz5, sz6, kt1, kt2, kt3, kt4, kt5, kt6, kt7, kt8, kt9, kt10, kt11, kt12, kt13, kt14, kt15, s_45_3, e1])).trans rfl
    by_cases hq : at_ ts job < 2 ∨ 1000 < at_ ws job * 2
    · refine runF_ret (env := [some g1, some (dI ts), some (dI ws), some (.int job), none, none, none, none, none, none, none]) ?_ rfl rfl rfl
      refine Eq.trans start ?_
      refine exs_ret ?_
      unfold s_45_4
      have ec : evb (CF T k) (.or (.cmp .Lt (.idx (.var 1) (.var 3)) (.int 2)) (.cmp .Gt (.bin .Mult (.idx (.var 2) (.var 3)) (.int 2)) (.int 1000))) [some g1, some (dI ts), some (dI ws), some (.int job), none, none, none, none, none, none, none] = .ok true [some g1, some (dI ts), some (dI ws), some (.int job), none, none, none, none, none, none, none] := by
        by_cases q : at_ ts job < 2
        · simp -implicitDefEqProofs [runF, exs, ex, evb, evi, evc, evo, ev, evs, getE, callD, argsAt, outsAt, outsOf, IEs.owns, binD, cmpD, biD, addD, subD, leD, ltD, isiD, truD, negD, isL, eq_int, itemsD, bindT, len_dI, sz0, sz1, sz2, sz3, sz4, sz5, sz6, kt1, kt2, kt3, kt4, kt5, kt6, kt7, kt8, kt9, kt10, kt11, kt12, kt13, kt14, kt15, a1, a2, q]
        · have q2 : 1000 < at_ ws job * 2 := hq.resolve_left q
          simp -implicitDefEqProofs [runF, exs, ex, evb, evi, evc, evo, ev, evs, getE, callD, argsAt, outsAt, outsOf, IEs.owns, binD, cmpD, biD, addD, subD, leD, ltD, isiD, truD, negD, isL, eq_int, itemsD, bindT, len_dI, sz0, sz1, sz2, sz3, sz4, sz5, sz6, kt1, kt2, kt3, kt4, kt5, kt6, kt7, kt8, kt9, kt10, kt11, kt12, kt13, kt14, kt15, a1, a2, q, m1, q2]
      rw [ex_if ec, if_pos rfl]
      exact exs_ret (ex_ret (by simp -implicitDefEqProofs [runF, exs, ex, evb, evi, evc, evo, ev, evs, getE, callD, argsAt, outsAt, outsOf, IEs.owns, binD, cmpD, biD, addD, subD, leD, ltD, isiD, truD, negD, isL, eq_int, itemsD, bindT, len_dI, sz0, sz1, sz2, sz3, sz4, sz5, sz6, kt1, kt2, kt3, kt4, kt5, kt6, kt7, kt8, kt9, kt10, kt11, kt12, kt13, kt14, kt15, ]))
    · have q1 : ¬ at_ ts job < 2 := fun h => hq (.inl h)
      have q2 : ¬ 1000 < at_ ws job * 2 := fun h => hq (.inr h)
      have J2 := split_jobs J j0 j1 (by omega)
      have ls := lots_split J j0 j1 (by omega)
      obtain ⟨A, B, l, eL, hjl, hAB, hrg⟩ := lots_cut J j0 j1
      have x1 := lots_by_ratio_at (k := k) (by omega) J
      have x2 := lots_by_ratio_at (k := k) (by omega) J2
      have x3 := count_at (k := k) (by omega) J
      have x4 := count_at (k := k) (by omega) J2
      obtain ⟨ll1, ll2⟩ := lots_len J
      obtain ⟨ll3, ll4⟩ := lots_len J2
      rw [ls] at x2 x4 ll3 ll4
      rw [eL] at x1 x2 x3 x4 ll1 ll2 ll3 ll4
      have hl1 := (ll2 l (by simp)).1
      have hmany := count_cut (n := (ts.length : Int)) (A := A) (B := B) hl1
      rw [← due_cut (n := (ts.length : Int)) hjl hAB] at hmany
      have hdue := due_cut (n := (ts.length : Int)) hjl hAB
      generalize hD : (A ++ l :: B).map (putN ts.length job) = due at *
      generalize hLL : A ++ l :: B = L at *
      have at1 : addD (dI ts) (dI [at_ ts job]) = some (dI (ts ++ [at_ ts job])) := add_dI (by simp; omega)
      have at2 : addD (dI ws) (dI [at_ ws job]) = some (dI (ws ++ [at_ ws job])) := add_dI (by simp; omega)
      generalize hT : ts ++ [at_ ts job] = tw at *
      generalize hW : ws ++ [at_ ws job] = hv at *
      have lenN : (sortI (l ++ [(ts.length : Int)])).length = l.length + 1 := by rw [sortI_len]; simp
      have hfil : due.filter (fun m => decide ((ts.length : Int) ∈ m)) = [sortI (l ++ [(ts.length : Int)])] := by
        have none_of : ∀ C : List (List Int), (∀ m ∈ C, m ∈ A ++ B) → C.filter (fun m => decide ((ts.length : Int) ∈ m)) = [] := fun C hC => List.filter_eq_nil_iff.mpr fun m hm => by
          have h3 : m ∈ L := by
            rw [← hLL]
            rcases List.mem_append.mp (hC m hm) with q | q
            · exact List.mem_append_left _ q
            · exact List.mem_append_right _ (List.mem_cons_of_mem _ q)
          have : ¬ (ts.length : Int) ∈ m := fun h => by have := hrg m h3 _ h; omega
          simp [this]
        have hin : (ts.length : Int) ∈ sortI (l ++ [(ts.length : Int)]) := (List.mergeSort_perm _ _).mem_iff.mpr (by simp)
        rw [hdue, List.filter_append, List.filter_cons_of_pos (by simpa using hin), none_of A (fun m h => List.mem_append_left _ h), none_of B (fun m h => List.mem_append_right _ h)]
        rfl
      generalize hN : sortI (l ++ [(ts.length : Int)]) = ln at *
      generalize hE : some (D.int job) = oj
      have hoj : oj = some (D.int job) := hE.symm
      have el0 : ev (CF T k) l_45_0 [some g1, some (dI ts), some (dI ws), some (.int job), some (dI tw), some (dI hv), some (dL L), some (dL due), none, none, none] = .ok (dL due) [some g1, some (dI ts), some (dI ws), some (.int job), some (dI tw), some (dI hv), some (dL L), some (dL due), none, none, none] := by
        have := ev_lcm (α := List Int) (C := CF T k) (i := 9) (it := .val (.var 6)) (e := .ife (.cmp .In (.var 3) (.var 9)) (.bi .sorted (.cons (.bin .Add (.var 9) (.lst (.cons (.bi .len (.cons (.var 1) .nil)) .nil))) .nil)) (.var 9)) (env := [some g1, some (dI ts), some (dI ws), some (.int job), some (dI tw), some (dI hv), some (dL L), some (dL due), none, none, none]) (g := fun m => dI (putN ts.length job m)) (inj := dI) L (by simp) (by simp -implicitDefEqProofs [runF, exs, ex, evb, evi, evc, evo, ev, evs, getE, callD, argsAt, outsAt, outsOf, IEs.owns, binD, cmpD, biD, addD, subD, leD, ltD, isiD, truD, negD, isL, eq_int, itemsD, bindT, len_dI, sz0, sz1, sz2, sz3, sz4, sz5, sz6, kt1, kt2, kt3, kt4, kt5, kt6, kt7, kt8, kt9, kt10, kt11, kt12, kt13, kt14, kt15, dL]) (sz12 (by omega)) (fun x hx => by
          have i1 := inD_dI job x
          have hxl := (ll2 x hx).2
          by_cases q : job ∈ x
          · rw [decide_eq_true q] at i1
            refine (ev_ife (t := true) (env1 := [some g1, some (dI ts), some (dI ws), some (.int job), some (dI tw), some (dI hv), some (dL L), some (dL due), none, some (dI x), none]) (by simp -implicitDefEqProofs [runF, exs, ex, evb, evi, evc, evo, ev, evs, getE, callD, argsAt, outsAt, outsOf, IEs.owns, binD, cmpD, biD, addD, subD, leD, ltD, isiD, truD, negD, isL, eq_int, itemsD, bindT, len_dI, sz0, sz1, sz2, sz3, sz4, sz5, sz6, kt1, kt2, kt3, kt4, kt5, kt6, kt7, kt8, kt9, kt10, kt11, kt12, kt13, kt14, kt15, i1])).trans ?_
            rw [if_pos rfl]
            have e3 : putN ts.length job x = sortI (x ++ [(ts.length : Int)]) := if_pos q
            rw [e3]
            refine ev_bi1 (x := dI (x ++ [(ts.length : Int)])) ?_ (sorted_dI (by simp; omega))
            exact ev_bin (env1 := [some g1, some (dI ts), some (dI ws), some (.int job), some (dI tw), some (dI hv), some (dL L), some (dL due), none, some (dI x), none]) (x := dI x) (y := dI [(ts.length : Int)]) (by simp -implicitDefEqProofs [runF, exs, ex, evb, evi, evc, evo, ev, evs, getE, callD, argsAt, outsAt, outsOf, IEs.owns, binD, cmpD, biD, addD, subD, leD, ltD, isiD, truD, negD, isL, eq_int, itemsD, bindT, len_dI, sz0, sz1, sz2, sz3, sz4, sz5, sz6, kt1, kt2, kt3, kt4, kt5, kt6, kt7, kt8, kt9, kt10, kt11, kt12, kt13, kt14, kt15, ]) (by simp -implicitDefEqProofs [runF, exs, ex, evb, evi, evc, evo, ev, evs, getE, callD, argsAt, outsAt, outsOf, IEs.owns, binD, cmpD, biD, addD, subD, leD, ltD, isiD, truD, negD, isL, eq_int, itemsD, bindT, len_dI, sz0, sz1, sz2, sz3, sz4, sz5, sz6, kt1, kt2, kt3, kt4, kt5, kt6, kt7, kt8, kt9, kt10, kt11, kt12, kt13, kt14, kt15, ]) (add_dI (by simp; omega))
          · rw [decide_eq_false q] at i1
            refine (ev_ife (t := false) (env1 := [some g1, some (dI ts), some (dI ws), some (.int job), some (dI tw), some (dI hv), some (dL L), some (dL due), none, some (dI x), none]) (by simp -implicitDefEqProofs [runF, exs, ex, evb, evi, evc, evo, ev, evs, getE, callD, argsAt, outsAt, outsOf, IEs.owns, binD, cmpD, biD, addD, subD, leD, ltD, isiD, truD, negD, isL, eq_int, itemsD, bindT, len_dI, sz0, sz1, sz2, sz3, sz4, sz5, sz6, kt1, kt2, kt3, kt4, kt5, kt6, kt7, kt8, kt9, kt10, kt11, kt12, kt13, kt14, kt15, i1])).trans ?_
            rw [if_neg (by simp)]
            have e3 : putN ts.length job x = x := if_neg q
            rw [e3]
            simp -implicitDefEqProofs [runF, exs, ex, evb, evi, evc, evo, ev, evs, getE, callD, argsAt, outsAt, outsOf, IEs.owns, binD, cmpD, biD, addD, subD, leD, ltD, isiD, truD, negD, isL, eq_int, itemsD, bindT, len_dI, sz0, sz1, sz2, sz3, sz4, sz5, sz6, kt1, kt2, kt3, kt4, kt5, kt6, kt7, kt8, kt9, kt10, kt11, kt12, kt13, kt14, kt15, ])
        have e2 : dL due = .lst (L.map fun m => dI (putN ts.length job m)) := by
          rw [← hD]
          unfold dL
          rw [List.map_map]
          rfl
        conv => rhs; rw [show (Res.ok (dL due) [some g1, some (dI ts), some (dI ws), some (D.int job), some (dI tw), some (dI hv), some (dL L), some (dL due), none, none, none] : Res D) = Res.ok (.lst (L.map fun m => dI (putN ts.length job m))) [some g1, some (dI ts), some (dI ws), some (D.int job), some (dI tw), some (dI hv), some (dL L), some (dL due), none, none, none] from by rw [← e2]]
        exact this
      have el1 : ev (CF T k) l_45_1 [some g1, some (dI ts), some (dI ws), some (.int job), some (dI tw), some (dI hv), some (dL L), some (dL due), some (dL due), none, none] = .ok (dI [(l.length : Int) + 1]) [some g1, some (dI ts), some (dI ws), some (.int job), some (dI tw), some (dI hv), some (dL L), some (dL due), some (dL due), none, none] := by
        have := ev_lc1 (α := List Int) (C := CF T k) (i := 9) (it := .val (.var 8)) (c := .some (.cmp .In (.bi .len (.cons (.var 1) .nil)) (.var 9))) (e := .bi .len (.cons (.var 9) .nil)) (env := [some g1, some (dI ts), some (dI ws), some (.int job), some (dI tw), some (dI hv), some (dL L), some (dL due), some (dL due), none, none]) (p := fun m => decide ((ts.length : Int) ∈ m)) (g := fun m => .int m.length) (inj := dI) due (by simp) (by simp -implicitDefEqProofs [runF, exs, ex, evb, evi, evc, evo, ev, evs, getE, callD, argsAt, outsAt, outsOf, IEs.owns, binD, cmpD, biD, addD, subD, leD, ltD, isiD, truD, negD, isL, eq_int, itemsD, bindT, len_dI, sz0, sz1, sz2, sz3, sz4, sz5, sz6, kt1, kt2, kt3, kt4, kt5, kt6, kt7, kt8, kt9, kt10, kt11, kt12, kt13, kt14, kt15, dL]) (sz12 (by omega)) (fun x hx => by
          have i1 := inD_dI (ts.length : Int) x
          simp -implicitDefEqProofs [runF, exs, ex, evb, evi, evc, evo, ev, evs, getE, callD, argsAt, outsAt, outsOf, IEs.owns, binD, cmpD, biD, addD, subD, leD, ltD, isiD, truD, negD, isL, eq_int, itemsD, bindT, len_dI, sz0, sz1, sz2, sz3, sz4, sz5, sz6, kt1, kt2, kt3, kt4, kt5, kt6, kt7, kt8, kt9, kt10, kt11, kt12, kt13, kt14, kt15, i1]) (fun x hx _ => by simp -implicitDefEqProofs [runF, exs, ex, evb, evi, evc, evo, ev, evs, getE, callD, argsAt, outsAt, outsOf, IEs.owns, binD, cmpD, biD, addD, subD, leD, ltD, isiD, truD, negD, isL, eq_int, itemsD, bindT, len_dI, sz0, sz1, sz2, sz3, sz4, sz5, sz6, kt1, kt2, kt3, kt4, kt5, kt6, kt7, kt8, kt9, kt10, kt11, kt12, kt13, kt14, kt15, ])
        rw [hfil] at this
        have e4 : ((ln.length : Nat) : Int) = (l.length : Int) + 1 := by rw [lenN]; omega
        simp only [List.map_cons, List.map_nil, e4] at this
        exact this
      generalize hV : D.lst [dL due, .int (countF due)] = V
      have pl : Pl 3 V := by
        subst hV
        refine .lst 2 _ (fun d hd => ?_) (by simp)
        simp only [List.mem_cons, List.not_mem_nil, or_false] at hd
        rcases hd with rfl | rfl
        · exact pl_lots (by omega) fun l hl => by have := ll4 l hl; omega
        · exact .int _ _
      have exx := exact_at 3 (k := k) V (by omega) pl
      have mc : mulD (.int ((l.length : Int) + 1)) (.int (countF L)) = some (.int (countF due)) := by
        rw [hmany]
        have b1 := count_bd ll2
        have b2 : ((l.length : Int) + 1).natAbs < 2 ^ 10 := by
          have := ll2 l (by rw [← hLL]; simp)
          omega
        exact mul_int 10 (48 * (L.length + 1)) b2 b1 (by omega)
      refine runF_ret (env := [some g1, some (dI ts), some (dI ws), some (.int job), some (dI tw), some (dI hv), some (dL L), some (dL due), some (dL due), none, some (.int ((l.length : Int) + 1))]) ?_ rfl rfl rfl
      refine Eq.trans start ?_
      refine (exs_next (ex_if0 (by simp -implicitDefEqProofs [runF, exs, ex, evb, evi, evc, evo, ev, evs, getE, callD, argsAt, outsAt, outsOf, IEs.owns, binD, cmpD, biD, addD, subD, leD, ltD, isiD, truD, negD, isL, eq_int, itemsD, bindT, len_dI, sz0, sz1, sz2, sz3, sz4, sz5, sz6, kt1, kt2, kt3, kt4, kt5, kt6, kt7, kt8, kt9, kt10, kt11, kt12, kt13, kt14, kt15, a1, a2, q1, m1, q2]))).trans ?_
      refine (exs_next (ex_par (env1 := [some g1, some (dI ts), some (dI ws), some (.int job), none, none, none, none, none, none, none]) (env2 := [some g1, some (dI ts), some (dI ws), some (.int job), none, none, none, none, none, none, none]) (ev_bin (op := .Add) (env1 := [some g1, some (dI ts), some (dI ws), some (.int job), none, none, none, none, none, none, none]) (d := dI tw) (x := dI ts) (y := dI [at_ ts job]) (by simp -implicitDefEqProofs [runF, exs, ex, evb, evi, evc, evo, ev, evs, getE, callD, argsAt, outsAt, outsOf, IEs.owns, binD, cmpD, biD, addD, subD, leD, ltD, isiD, truD, negD, isL, eq_int, itemsD, bindT, len_dI, sz0, sz1, sz2, sz3, sz4, sz5, sz6, kt1, kt2, kt3, kt4, kt5, kt6, kt7, kt8, kt9, kt10, kt11, kt12, kt13, kt14, kt15, ]) (by simp -implicitDefEqProofs [runF, exs, ex, evb, evi, evc, evo, ev, evs, getE, callD, argsAt, outsAt, outsOf, IEs.owns, binD, cmpD, biD, addD, subD, leD, ltD, isiD, truD, negD, isL, eq_int, itemsD, bindT, len_dI, sz0, sz1, sz2, sz3, sz4, sz5, sz6, kt1, kt2, kt3, kt4, kt5, kt6, kt7, kt8, kt9, kt10, kt11, kt12, kt13, kt14, kt15, a1]) at1) (ev_bin (op := .Add) (env1 := [some g1, some (dI ts), some (dI ws), some (.int job), none, none, none, none, none, none, none]) (d := dI hv) (x := dI ws) (y := dI [at_ ws job]) (by simp -implicitDefEqProofs [runF, exs, ex, evb, evi, evc, evo, ev, evs, getE, callD, argsAt, outsAt, outsOf, IEs.owns, binD, cmpD, biD, addD, subD, leD, ltD, isiD, truD, negD, isL, eq_int, itemsD, bindT, len_dI, sz0, sz1, sz2, sz3, sz4, sz5, sz6, kt1, kt2, kt3, kt4, kt5, kt6, kt7, kt8, kt9, kt10, kt11, kt12, kt13, kt14, kt15, ]) (by simp -implicitDefEqProofs [runF, exs, ex, evb, evi, evc, evo, ev, evs, getE, callD, argsAt, outsAt, outsOf, IEs.owns, binD, cmpD, biD, addD, subD, leD, ltD, isiD, truD, negD, isL, eq_int, itemsD, bindT, len_dI, sz0, sz1, sz2, sz3, sz4, sz5, sz6, kt1, kt2, kt3, kt4, kt5, kt6, kt7, kt8, kt9, kt10, kt11, kt12, kt13, kt14, kt15, a2]) at2) (by simp))).trans ?_
      refine (exs_next (env1 := [some g1, some (dI ts), some (dI ws), some (.int job), some (dI tw), some (dI hv), some (dL L), some (dL due), none, none, none]) (by simp -implicitDefEqProofs [runF, exs, ex, evb, evi, evc, evo, ev, evs, getE, callD, argsAt, outsAt, outsOf, IEs.owns, binD, cmpD, biD, addD, subD, leD, ltD, isiD, truD, negD, isL, eq_int, itemsD, bindT, len_dI, sz0, sz1, sz2, sz3, sz4, sz5, sz6, kt1, kt2, kt3, kt4, kt5, kt6, kt7, kt8, kt9, kt10, kt11, kt12, kt13, kt14, kt15, s_45_6, x1, x2])).trans ?_
      refine (exs_next (ex_set el0 (fun h => by cases h) (by simp))).trans ?_
      refine (exs_next (ex_set (ev_idx (y := .int 0) (env2 := [some g1, some (dI ts), some (dI ws), some (.int job), some (dI tw), some (dI hv), some (dL L), some (dL due), some (dL due), none, none]) (d := .int ((l.length : Int) + 1)) el1 (by simp -implicitDefEqProofs [runF, exs, ex, evb, evi, evc, evo, ev, evs, getE, callD, argsAt, outsAt, outsOf, IEs.owns, binD, cmpD, biD, addD, subD, leD, ltD, isiD, truD, negD, isL, eq_int, itemsD, bindT, len_dI, sz0, sz1, sz2, sz3, sz4, sz5, sz6, kt1, kt2, kt3, kt4, kt5, kt6, kt7, kt8, kt9, kt10, kt11, kt12, kt13, kt14, kt15, ]) rfl) (fun h => by cases h) (by simp))).trans ?_
      refine exs_ret (ex_ret ?_)
      have q8 : evs (CF T k) (.cons (.lst (.cons (.var 7) (.cons (.call 28 (.cons (.var 4) (.cons (.var 5) .nil))) .nil))) (.cons (.lst (.cons (.var 8) (.cons (.bin .Mult (.var 10) (.call 28 (.cons (.var 1) (.cons (.var 2) .nil)))) .nil))) .nil)) [some g1, some (dI ts), some (dI ws), some (.int job), some (dI tw), some (dI hv), some (dL L), some (dL due), some (dL due), none, some (.int ((l.length : Int) + 1))] = .ok [V, V] [some g1, some (dI ts), some (dI ws), some (.int job), some (dI tw), some (dI hv), some (dL L), some (dL due), some (dL due), none, some (.int ((l.length : Int) + 1))] := by
        rw [← hV]
        simp -implicitDefEqProofs [runF, exs, ex, evb, evi, evc, evo, ev, evs, getE, callD, argsAt, outsAt, outsOf, IEs.owns, binD, cmpD, biD, addD, subD, leD, ltD, isiD, truD, negD, isL, eq_int, itemsD, bindT, len_dI, sz0, sz1, sz2, sz3, sz4, sz5, sz6, kt1, kt2, kt3, kt4, kt5, kt6, kt7, kt8, kt9, kt10, kt11, kt12, kt13, kt14, kt15, x3, x4, mc]
      show ev (CF T k) (.call 36 (.cons (.lst (.cons (.var 7) (.cons (.call 28 (.cons (.var 4) (.cons (.var 5) .nil))) .nil))) (.cons (.lst (.cons (.var 8) (.cons (.bin .Mult (.var 10) (.call 28 (.cons (.var 1) (.cons (.var 2) .nil)))) .nil))) .nil))) _ = _
      rw [ev]
      simp only [List.set_cons_succ, List.set_cons_zero]
      rw [q8]
      simp only [Res.bind_ok]
      simp -implicitDefEqProofs [runF, exs, ex, evb, evi, evc, evo, ev, evs, getE, callD, argsAt, outsAt, outsOf, IEs.owns, binD, cmpD, biD, addD, subD, leD, ltD, isiD, truD, negD, isL, eq_int, itemsD, bindT, len_dI, sz0, sz1, sz2, sz3, sz4, sz5, sz6, kt1, kt2, kt3, kt4, kt5, kt6, kt7, kt8, kt9, kt10, kt11, kt12, kt13, kt14, kt15, exx]
end LT
namespace LT
open PySem VI
/-! P7: times and weights grown by factors; jobs numbered anew -/
theorem at_grow (f : Int) (xs : List Int) (i : Int) : at_ (xs.map fun x => f * x) i = f * at_ xs i := by
  unfold at_
  by_cases h : i.toNat < xs.length
  · simp [h]
  · simp [List.getElem?_eq_none (Nat.le_of_not_lt h)]
/-- the same signs -/
def SameS (g h : Int → Int → Int) : Prop := ∀ a b, (0 < h a b ↔ 0 < g a b) ∧ (h a b = 0 ↔ g a b = 0)
theorem gn_grow (f l : Int) (ts ws : List Int) (a b : Int) : gn (ts.map fun x => f * x) (ws.map fun x => l * x) a b = (f * l) * gn ts ws a b := by
  unfold gn
  rw [at_grow, at_grow, at_grow, at_grow, Int.mul_sub]
  congr 1
  · ac_rfl
  · ac_rfl
theorem grow_same {f l : Int} (hf : 0 < f) (hl : 0 < l) (ts ws : List Int) : SameS (gn ts ws) (gn (ts.map fun x => f * x) (ws.map fun x => l * x)) := fun a b => by
  have hc : 0 < f * l := Int.mul_pos hf hl
  rw [gn_grow]
  constructor
  · constructor
    · intro h
      have q : ¬ gn ts ws a b ≤ 0 := fun q => by
        have := Int.mul_le_mul_of_nonneg_left q (Int.le_of_lt hc)
        rw [Int.mul_zero] at this
        omega
      omega
    · intro h
      exact Int.mul_pos hc h
  · rw [Int.mul_eq_zero]
    constructor
    · rintro (h | h)
      · omega
      · exact h
    · exact .inr
section
variable {g h : Int → Int → Int} (S : SameS g h)
include S
theorem same_pick : ∀ (l : List Int) (f : Int), pickF h f l = pickF g f l
  | [], _ => rfl
  | x :: l, f => by
    show pickF h (if 0 < h f x then x else f) l = pickF g (if 0 < g f x then x else f) l
    rw [same_pick l]
    congr 1
    simp only [(S f x).1]
theorem same_byR : ∀ (m : Nat) (l : List Int), byR h m l = byR g m l
  | 0, _ => rfl
  | _ + 1, [] => rfl
  | m + 1, a :: l => by
    unfold byR
    rw [same_pick S (a :: l) a, same_byR m]
theorem same_add (cs : List (List Int)) (j : Int) : addG h cs j = addG g cs j := by
  unfold addG
  cases cs.getLast? with
  | none => rfl
  | some l => simp only [(S (at_ l 0) j).2]
theorem same_lots (r : List Int) : lotsF h r = lotsF g r := by
  unfold lotsF
  congr 1
  have : ∀ (r : List Int) (cs : List (List Int)), r.foldl (addG h) cs = r.foldl (addG g) cs := fun r => by
    induction r with
    | nil => intro cs; rfl
    | cons a r ih => intro cs; rw [List.foldl_cons, List.foldl_cons, same_add S, ih]
  exact this r []
theorem same_first (r : List Int) : firstG h r = firstG g r := by
  unfold firstG
  congr 1
  funext i
  have := (S (at_ r i) (at_ r (i + 1 : Nat))).1
  exact decide_eq_decide.mpr this
theorem same_exch : ∀ (n : Nat) (r : List Int), exchF h n r = exchF g n r
  | 0, _ => rfl
  | n + 1, r => by
    unfold exchF
    rw [same_first S]
    cases firstG g r with
    | none => rfl
    | some p => simp only [same_exch n]
theorem same_best (r : List Int) : bestF h r = bestF g r := by
  unfold bestF
  congr 2
  funext i
  exact decide_eq_decide.mpr (S (at_ r i) (at_ r (i + 1 : Nat))).1
end
theorem cR_grow (f l : Int) (T W : Int → Int) : ∀ (r : List Int) (now : Int), cR (fun i => f * T i) (fun i => l * W i) r (f * now) = (f * l) * cR T W r now
  | [], _ => by simp [cR]
  | j :: r, now => by
    have e : f * now + f * T j = f * (now + T j) := (Int.mul_add f now (T j)).symm
    rw [cR, cR, e, cR_grow f l T W r (now + T j), Int.mul_add (f * l)]
    congr 1
    ac_rfl
theorem cost_grow {f l : Int} {ts ws r : List Int} (h : IsRow ts.length r) : costF (ts.map fun x => f * x) (ws.map fun x => l * x) r = (f * l) * costF ts ws r := by
  rw [costF_eq (by rw [List.length_map]; exact h), costF_eq h]
  have e1 : at_ (ts.map fun x => f * x) = fun i => f * at_ ts i := funext fun i => at_grow f ts i
  have e2 : at_ (ws.map fun x => l * x) = fun i => l * at_ ws i := funext fun i => at_grow l ws i
  rw [e1, e2]
  have := cR_grow f l (at_ ts) (at_ ws) r 0
  rwa [Int.mul_zero] at this
theorem sm_scale (c : Int) (f : Int → Int) : ∀ (l : List Int), sm (fun b => c * f b) l = c * sm f l
  | [] => by simp [sm]
  | b :: l => by rw [sm_cons (fun b => c * f b), sm_cons f, sm_scale c f l, Int.mul_add]
theorem pS_scale (c : Int) (m : Int → Int → Int) : ∀ (l : List Int), pS (fun a b => c * m a b) l = c * pS m l
  | [] => by simp [pS]
  | a :: l => by rw [pS, pS, pS_scale c m l, sm_scale c (m a), Int.mul_add]
theorem min_scale {c : Int} (hc : 0 ≤ c) (x y : Int) : min (c * x) (c * y) = c * min x y := by
  rcases Int.le_total x y with h | h
  · rw [Int.min_eq_left h, Int.min_eq_left (Int.mul_le_mul_of_nonneg_left h hc)]
  · rw [Int.min_eq_right h, Int.min_eq_right (Int.mul_le_mul_of_nonneg_left h hc)]
theorem least_grow {f l : Int} (hf : 0 < f) (hl : 0 < l) (ts ws : List Int) : leastF (ts.map fun x => f * x) (ws.map fun x => l * x) = (f * l) * leastF ts ws := by
  have hc : 0 ≤ f * l := Int.le_of_lt (Int.mul_pos hf hl)
  rw [leastF_eq, leastF_eq, List.length_map, Int.mul_add]
  congr 1
  · rw [← sm_scale]
    refine sm_congr fun j _ => ?_
    rw [at_grow, at_grow]
    ac_rfl
  · rw [← pS_scale]
    refine pS_congr fun a _ b _ => ?_
    unfold mn
    rw [at_grow, at_grow, at_grow, at_grow, ← min_scale hc]
    congr 1
    · ac_rfl
    · ac_rfl
end LT
namespace LT
open PySem VI
/-! P8: jobs numbered anew -/
section
variable {ts ws nm : List Int}
theorem nm_at (hn : IsRow ts.length nm) {i : Int} (hi : i ∈ jobs ts.length) : at_ nm i ∈ jobs ts.length := by
  obtain ⟨j, hj, rfl⟩ := List.mem_map.mp hi
  have hj : j < nm.length := by rw [hn.len]; simpa using hj
  exact mem_jobs.mpr (hn.rg _ (at_mem hj))
theorem at_nm (hn : IsRow ts.length nm) (xs : List Int) {i : Int} (hi : i ∈ jobs ts.length) : at_ (nm.map (at_ xs)) i = at_ xs (at_ nm i) := at_map _ (by rw [hn.len]; exact hi)
theorem gn_nm (hn : IsRow ts.length nm) {a b : Int} (ha : a ∈ jobs ts.length) (hb : b ∈ jobs ts.length) : gn (nm.map (at_ ts)) (nm.map (at_ ws)) a b = gn ts ws (at_ nm a) (at_ nm b) := by
  unfold gn
  rw [at_nm hn _ ha, at_nm hn _ ha, at_nm hn _ hb, at_nm hn _ hb]
theorem nm_jobs (J : Jobs ts ws) (hn : IsRow ts.length nm) : Jobs (nm.map (at_ ts)) (nm.map (at_ ws)) := by
  have h1 := J.l1
  have h2 := J.l2
  have h3 := hn.len
  refine ⟨⟨by rw [List.length_map]; omega, by rw [List.length_map, List.length_map], fun x hx => ?_, fun x hx => ?_⟩, by rw [List.length_map]; omega⟩
  · obtain ⟨i, hi, rfl⟩ := List.mem_map.mp hx
    exact J.ti (hn.rg i hi).1 (hn.rg i hi).2
  · obtain ⟨i, hi, rfl⟩ := List.mem_map.mp hx
    exact J.wi (hn.rg i hi).1 (hn.rg i hi).2
theorem nm_least (hn : IsRow ts.length nm) : leastF (nm.map (at_ ts)) (nm.map (at_ ws)) = leastF ts ws := by
  rw [least_map, leastF_eq, sm_perm hn.jobs, pS_perm (mn_symm ts ws) hn.jobs]
theorem cR_congr {T W T2 W2 : Int → Int} : ∀ {r : List Int} {now : Int}, (∀ i ∈ r, T i = T2 i ∧ W i = W2 i) → cR T W r now = cR T2 W2 r now
  | [], _, _ => rfl
  | j :: r, now, h => by
    obtain ⟨h1, h2⟩ := h j (List.mem_cons_self ..)
    rw [cR, cR, h1, h2, cR_congr fun i hi => h i (List.mem_cons_of_mem _ hi)]
theorem cR_map (T W f : Int → Int) : ∀ (r : List Int) (now : Int), cR T W (r.map f) now = cR (fun i => T (f i)) (fun i => W (f i)) r now
  | [], _ => rfl
  | j :: r, now => by rw [List.map_cons, cR, cR, cR_map T W f r]
/-- the row in the new numbers -/
theorem nm_cost (hn : IsRow ts.length nm) {r r2 : List Int} (h : IsRow ts.length r) (h2 : IsRow ts.length r2) (e : r2.map (at_ nm) = r) : costF (nm.map (at_ ts)) (nm.map (at_ ws)) r2 = costF ts ws r := by
  rw [costF_eq (by rw [List.length_map, hn.len]; exact h2), costF_eq h, ← e, cR_map]
  exact cR_congr fun i hi => by
    have : i ∈ jobs ts.length := mem_jobs.mpr (h2.rg i hi)
    exact ⟨at_nm hn _ this, at_nm hn _ this⟩
theorem nm_best (J : Jobs ts ws) (hn : IsRow ts.length nm) {r r2 : List Int} (h : IsRow ts.length r) (h2 : IsRow ts.length r2) (e : r2.map (at_ nm) = r) : bestF (gn (nm.map (at_ ts)) (nm.map (at_ ws))) r2 = bestF (gn ts ws) r := by
  have J2 := nm_jobs J hn
  have b1 := best_iff (gn_tr J2) (r := r2) (by rw [List.length_map, hn.len]; exact h2.rg)
  have b2 := best_iff (gn_tr J) (r := r) h.rg
  have key : Srt (gn (nm.map (at_ ts)) (nm.map (at_ ws))) r2 ↔ Srt (gn ts ws) r := by
    rw [← e]
    unfold Srt
    rw [List.pairwise_map]
    constructor
    · intro p
      exact List.Pairwise.imp_of_mem (fun {a b} ha hb q => by
        rwa [gn_nm hn (mem_jobs.mpr (h2.rg a ha)) (mem_jobs.mpr (h2.rg b hb))] at q) p
    · intro p
      exact List.Pairwise.imp_of_mem (fun {a b} ha hb q => by
        rwa [gn_nm hn (mem_jobs.mpr (h2.rg a ha)) (mem_jobs.mpr (h2.rg b hb))]) p
  rw [key, ← b2] at b1
  cases a : bestF (gn (nm.map (at_ ts)) (nm.map (at_ ws))) r2 <;> cases b : bestF (gn ts ws) r <;> rw [a, b] at b1 <;> simp at b1 <;> rfl
/-- a lot in the new numbers -/
def newL (n : Nat) (nm l : List Int) : List Int := (jobs n).filter fun i => decide (at_ nm i ∈ l)
theorem new_cls (hn : IsRow ts.length nm) {a : Int} (ha : a ∈ jobs ts.length) : newL ts.length nm (Cls (gn ts ws) ts.length (at_ nm a)) = Cls (gn (nm.map (at_ ts)) (nm.map (at_ ws))) ts.length a := by
  unfold newL
  show _ = (jobs ts.length).filter fun b => decide (gn (nm.map (at_ ts)) (nm.map (at_ ws)) a b = 0)
  refine List.filter_congr fun b hb => ?_
  refine decide_eq_decide.mpr ?_
  rw [mem_cls, gn_nm hn ha hb]
  exact ⟨fun h => h.2, fun h => ⟨nm_at hn hb, h⟩⟩
theorem nm_onto (hn : IsRow ts.length nm) {a : Int} (ha : a ∈ jobs ts.length) : ∃ i ∈ jobs ts.length, at_ nm i = a := by
  have h1 : a ∈ nm := hn.jobs.mem_iff.mpr ha
  rw [← jobs_map nm, hn.len] at h1
  obtain ⟨i, hi, e⟩ := List.mem_map.mp h1
  exact ⟨i, hi, e⟩
theorem nm_lots (J : Jobs ts ws) (hn : IsRow ts.length nm) : lotsOf (nm.map (at_ ts)) (nm.map (at_ ws)) = (lotsOf ts ws).map (newL ts.length nm) := by
  have J2 := nm_jobs J hn
  have hl : (nm.map (at_ ts)).length = ts.length := by rw [List.length_map, hn.len]
  have r1 := lots_rl J2
  have R2 := gn_rt J2
  rw [hl] at r1 R2
  have r2 := lots_rl J
  refine RL.uniq R2 r1 ⟨fun l hl => ?_, fun a ha => ?_, ?_⟩
  · obtain ⟨m, hm, rfl⟩ := List.mem_map.mp hl
    obtain ⟨a, ha, rfl⟩ := r2.cl m hm
    obtain ⟨i, hi, rfl⟩ := nm_onto hn ha
    exact ⟨i, hi, new_cls hn hi⟩
  · rw [← new_cls hn ha]
    exact List.mem_map.mpr ⟨_, r2.al _ (nm_at hn ha), rfl⟩
  · rw [List.pairwise_map]
    refine r2.pw.imp fun {l m} h a ha b hb => ?_
    obtain ⟨a1, a2⟩ := List.mem_filter.mp ha
    obtain ⟨b1, b2⟩ := List.mem_filter.mp hb
    rw [gn_nm hn a1 b1]
    exact h _ (of_decide_eq_true a2) _ (of_decide_eq_true b2)
theorem newL_len (hn : IsRow ts.length nm) {a : Int} (ha : a ∈ jobs ts.length) : (newL ts.length nm (Cls (gn ts ws) ts.length a)).length = (Cls (gn ts ws) ts.length a).length := by
  have e1 : (newL ts.length nm (Cls (gn ts ws) ts.length a)).length = (((jobs ts.length).map (at_ nm)).filter fun i => decide (i ∈ Cls (gn ts ws) ts.length a)).length := by
    unfold newL
    rw [List.filter_map, List.length_map]
    rfl
  have e2 : (jobs ts.length).map (at_ nm) = nm := by
    have := jobs_map nm
    rwa [hn.len] at this
  rw [e1, e2, (hn.jobs.filter _).length_eq]
  show ((jobs ts.length).filter _).length = ((jobs ts.length).filter fun b => decide (gn ts ws a b = 0)).length
  congr 1
  refine List.filter_congr fun b hb => decide_eq_decide.mpr ?_
  rw [mem_cls]
  exact ⟨fun h => h.2, fun h => ⟨hb, h⟩⟩
theorem nm_count (J : Jobs ts ws) (hn : IsRow ts.length nm) : countF (lotsOf (nm.map (at_ ts)) (nm.map (at_ ws))) = countF (lotsOf ts ws) := by
  rw [nm_lots J hn]
  have r2 := lots_rl J
  have go : ∀ (L : List (List Int)), (∀ l ∈ L, l ∈ lotsOf ts ws) → countF (L.map (newL ts.length nm)) = countF L := fun L => by
    induction L with
    | nil => intro _; rfl
    | cons l L ih =>
      intro h
      rw [List.map_cons, countF_cons, countF_cons, ih fun m hm => h m (List.mem_cons_of_mem _ hm)]
      obtain ⟨a, ha, rfl⟩ := r2.cl l (h l (List.mem_cons_self ..))
      rw [newL_len hn ha]
  exact go _ fun _ h => h
end
end LT
namespace LT
open PySem VI
/-! WB: times and weights grown, jobs numbered anew -/
theorem max_ints {xs : List Int} (h : xs ≠ []) : ∃ m, biD .max [dI xs] = some (.int m) ∧ m ∈ xs ∧ ∀ x ∈ xs, x ≤ m := by
  cases hm : xs.max? with
  | none => exact absurd (List.max?_eq_none_iff.mp hm) h
  | some m =>
    obtain ⟨h1, h2⟩ := List.max?_eq_some_iff.mp hm
    refine ⟨m, ?_, h1, h2⟩
    show (intsOf (xs.map .int)).bind (fun ns => ns.max?.map D.int) = _
    rw [intsOf_map]
    simp only [Option.bind_some]
    rw [hm]
    rfl
theorem max_D (i j : Int) : biD .max [.int i, .int j] = some (.int (max i j)) := by
  show some (D.int (if j > i then j else i)) = _
  congr 2
  omega
/-- what a factor may be -/
theorem fdiv_1000 {m : Int} (h1 : 1 ≤ m) (h2 : m ≤ 1000) : fdivD (.int 1000) (.int m) = some (.int ((1000 : Int).fdiv m)) ∧ 1 ≤ (1000 : Int).fdiv m ∧ (1000 : Int).fdiv m ≤ 1000 ∧ (1000 : Int).fdiv m * m ≤ 1000 := by
  have e : (1000 : Int).fdiv m = 1000 / m := Int.fdiv_eq_ediv_of_nonneg _ (by omega)
  rw [e]
  have q1 : (1000 : Int) / m * m ≤ 1000 := Int.ediv_mul_le 1000 (by omega)
  have q2 : (1 : Int) ≤ 1000 / m := Int.le_ediv_of_mul_le (by omega) (by omega)
  have q3 : (1000 : Int) / m ≤ 1000 := Int.ediv_le_self m (by omega)
  refine ⟨?_, q2, q3, q1⟩
  rw [fdiv_int 10 (by omega) (by omega) (by omega), e]
def ixOf (nm : List Int) (j : Int) : Int := ((nm.findIdx fun i => i == j : Nat) : Int)
theorem ixOf_ok {nm : List Int} {j : Int} (h : j ∈ nm) : 0 ≤ ixOf nm j ∧ ixOf nm j < nm.length ∧ at_ nm (ixOf nm j) = j := by
  have h1 : nm.findIdx (fun i => i == j) < nm.length := List.findIdx_lt_length_of_exists ⟨j, h, by simp⟩
  refine ⟨by unfold ixOf; omega, by unfold ixOf; omega, ?_⟩
  unfold ixOf
  rw [at_lt h1]
  have := List.findIdx_getElem (w := h1)
  simpa using this
theorem idxof_dI {nm : List Int} {j : Int} (h : j ∈ nm) : idxofD (dI nm) (.int j) = some (.int (ixOf nm j)) := by
  have h1 : toPy (.int j) = some (.int j) := by unfold toPy; rfl
  have h2 : toPy (dI nm) = some (.list (nm.map PyData.int)) := by
    unfold dI toPy
    rw [toPys_ints]
    rfl
  obtain ⟨p, e1, e2⟩ := sh_shaped (n := 1) (d := dI nm) (by
    show (nm.map D.int).all (shD 0) = true
    rw [List.all_map]
    exact List.all_eq_true.mpr fun _ _ => rfl) (by omega)
  rw [h2] at e1
  cases e1
  obtain ⟨q, e3, e4⟩ := sh_shaped (n := 0) (d := .int j) (by rfl) (by omega)
  rw [h1] at e3
  cases e3
  unfold idxofD
  rw [h1, h2]
  simp only [e2, e4, Bool.and_self, if_true]
  rw [List.findIdx?_map]
  have : (fun z => PyData.eqv z (.int j)) ∘ PyData.int = fun i => i == j := by
    funext i
    simp [PyData.eqv]
  rw [this]
  have h3 : nm.findIdx (fun i => i == j) < nm.length := List.findIdx_lt_length_of_exists ⟨j, h, by simp⟩
  have h4 : nm.findIdx? (fun i => i == j) = some (nm.findIdx fun i => i == j) := by
    rw [List.findIdx?_eq_some_iff_findIdx_eq]
    exact ⟨h3, rfl⟩
  rw [h4]
  rfl
theorem row2_ok {n : Nat} {nm r : List Int} (hn : IsRow n nm) (h : IsRow n r) : IsRow n (r.map (ixOf nm)) ∧ (r.map (ixOf nm)).map (at_ nm) = r := by
  have hin : ∀ i ∈ r, i ∈ nm := fun i hi => (hn.jobs.trans h.jobs.symm).mem_iff.mpr hi
  have e : (r.map (ixOf nm)).map (at_ nm) = r := by
    rw [List.map_map]
    have : r.map (at_ nm ∘ ixOf nm) = r.map id := List.map_congr_left fun i hi => (ixOf_ok (hin i hi)).2.2
    rw [this, List.map_id]
  refine ⟨⟨by rw [List.length_map]; exact h.len, ?_, fun i hi => ?_⟩, e⟩
  · have := h.nd
    rw [← e] at this
    exact List.Pairwise.of_map (at_ nm) (fun a b hab hc => hab (congrArg _ hc)) this
  · obtain ⟨j, hj, rfl⟩ := List.mem_map.mp hi
    obtain ⟨a, b, _⟩ := ixOf_ok (hin j hj)
    rw [hn.len] at b
    exact ⟨a, b⟩
theorem grow_jobs {f l : Int} {ts ws : List Int} (J : Jobs ts ws) (hf : 1 ≤ f) (hl : 0 ≤ l) (h1 : ∀ t ∈ ts, f * t ≤ 1000) (h2 : ∀ w ∈ ws, l * w ≤ 1000) : Jobs (ts.map fun x => f * x) (ws.map fun x => l * x) := by
  have a1 := J.l1
  have a2 := J.l2
  have a3 := J.lw
  refine ⟨⟨by rw [List.length_map]; exact a2, by rw [List.length_map, List.length_map]; exact a3, fun x hx => ?_, fun x hx => ?_⟩, by rw [List.length_map]; exact a1⟩
  · obtain ⟨i, hi, rfl⟩ := List.mem_map.mp hx
    have t1 := (J.t i hi).1
    have := Int.mul_le_mul hf t1 (by omega) (by omega)
    exact ⟨by omega, h1 i hi⟩
  · obtain ⟨i, hi, rfl⟩ := List.mem_map.mp hx
    exact ⟨Int.mul_nonneg hl (J.w i hi).1, h2 i hi⟩
end LT
namespace LT
open PySem VI
/-! WC: _law_grown_right -/
def EG (ts ws r : List Int) (g f l lo he to du nm ot ow or_ : Option D) : VI.Env := [g, some (dI ts), some (dI ws), some (dI r), f, l, lo, he, none, none, to, du, nm, ot, ow, none, or_]
theorem ev_bi2 {C : CT} {b : BI} {e1 e2 : IE} {env env1 env2 : VI.Env} {x y d : D} (h1 : ev C e1 env = .ok x env1) (h2 : ev C e2 env1 = .ok y env2) (hb : biD b [x, y] = some d) : ev C (.bi b (.cons e1 (.cons e2 .nil))) env = .ok d env2 := by
  rw [ev, evs, h1]
  simp only [Res.bind_ok]
  rw [evs, h2]
  simp only [Res.bind_ok, evs]
  rw [hb]
  rfl
theorem ev_own1 {C : CT} {r : Nat} {e : IE} {env : VI.Env} {g g' v d : D} (h0 : getE env 0 = some g) (h1 : ev C e env = .ok v env) (he : ∀ i, e ≠ .own i) (h2 : C r [g, v] = .ret d [g']) : ev C (.call r (.cons (.own 0) (.cons e .nil))) env = .ok d (env.set 0 (some g')) := by
  have ho : (IEs.cons (.own 0) (.cons e .nil)).owns = [some 0, none] := by
    cases e <;> first | rfl | exact absurd rfl (he _)
  rw [ev, evs, ev, h0]
  simp only [lift_some, Res.bind_ok]
  rw [evs, h1]
  simp only [Res.bind_ok, evs]
  rw [ho]
  simp only [callD, argsAt, h0, Option.map_some]
  rw [h2]
  simp only [outsAt]
theorem add_lst {xs ys : List D} (h : xs.length + ys.length ≤ 1000) : addD (.lst xs) (.lst ys) = some (.lst (xs ++ ys)) := by
  show (if xs.length + ys.length ≤ sizeLine then some (D.lst (xs ++ ys)) else none) = _
  rw [if_pos (sz12 h)]
theorem grown_at {k : Nat} (hk : 9 ≤ k) {m : Nat} {g : D} {ts ws r : List Int} (hg : Gn m g) (hm : m + 4000 < M0) (J : Jobs ts ws) (h : IsRow ts.length r) : ∃ g', CF T k 41 [g, dI ts, dI ws, dI r] = .ret (.bl true) [g'] ∧ Gn (m + 4000) g' := by
  obtain ⟨k, rfl⟩ : ∃ j, k = j + 1 := ⟨k - 1, by omega⟩
  have hn := J.l2
  have l1 := J.l1
  have lw := J.lw
  obtain ⟨m1, em1, hm1, hm2⟩ := max_ints (xs := ts) (fun z => by subst z; simp at l1)
  obtain ⟨m2, em2, hm3, hm4⟩ := max_ints (xs := ws) (fun z => by subst z; simp at lw; omega)
  have b1 := J.t m1 hm1
  have b2 := J.w m2 hm3
  obtain ⟨d1, d2, d3, d4⟩ := fdiv_1000 (m := m1) b1.1 b1.2
  obtain ⟨d5, d6, d7, d8⟩ := fdiv_1000 (m := max 1 m2) (by omega) (by omega)
  obtain ⟨x, g1, e1, x0, x1, q1⟩ := rnd_at (k := k) (by omega) m 10 g ((1000 : Int).fdiv m1) hg (by omega) (by omega) (by omega) (m0 (by omega))
  obtain ⟨y, g2, e2, y0, y1, q2⟩ := rnd_at (k := k) (by omega) (m + 101) 10 g1 ((1000 : Int).fdiv (max 1 m2)) q1 (by omega) (by omega) (by omega) (m0 (by omega))
  generalize hf : 1 + x = f
  generalize hl : 1 + y = l
  have hfb : 1 ≤ f ∧ f ≤ 1000 := by omega
  have hlb : 1 ≤ l ∧ l ≤ 1000 := by omega
  have fts : ∀ t ∈ ts, f * t ≤ 1000 := fun t ht => by
    have a := Int.mul_le_mul_of_nonneg_left (hm2 t ht) (by omega : 0 ≤ f)
    have b := Int.mul_le_mul_of_nonneg_right (by omega : f ≤ (1000 : Int).fdiv m1) (by omega : 0 ≤ m1)
    omega
  have lws : ∀ w ∈ ws, l * w ≤ 1000 := fun w hw => by
    have a := Int.mul_le_mul_of_nonneg_left (by have := hm4 w hw; omega : w ≤ max 1 m2) (by omega : 0 ≤ l)
    have b := Int.mul_le_mul_of_nonneg_right (by omega : l ≤ (1000 : Int).fdiv (max 1 m2)) (by omega : 0 ≤ max 1 m2)
    omega
  have JG := grow_jobs J hfb.1 (by omega) fts lws
  have SG := grow_same (f := f) (l := l) (by omega) (by omega) ts ws
  have gl : (ts.map fun x => f * x).length = ts.length := List.length_map _
  have hG : IsRow (ts.map fun x => f * x).length r := by rw [gl]; exact h
  have c1 := waiting_cost_at (k := k) (by omega) JG hG
  rw [cost_grow h] at c1
  have c2 := least_waiting_at (k := k) (by omega) JG
  rw [least_grow (by omega) (by omega)] at c2
  have rowG : rowF (ts.map fun x => f * x) (ws.map fun x => l * x) = rowF ts ws := by
    show byR _ _ _ = byR _ _ _
    rw [gl, same_byR SG]
  have lotsG : lotsOf (ts.map fun x => f * x) (ws.map fun x => l * x) = lotsOf ts ws := by
    show lotsF _ _ = lotsF _ _
    rw [rowG, same_lots SG]
  have c3 := lots_by_ratio_at (k := k) (by omega) JG
  rw [lotsG] at c3
  have c4 := best_waiting_row_at (k := k) (by omega) JG
  have c4' : CF T k 19 [dI (ts.map fun x => f * x), dI (ws.map fun x => l * x)] = .ret (dI (rowF ts ws)) [] := by rw [c4, ← rowG]
  have c5 := count_at (k := k) (by omega) JG
  rw [lotsG] at c5
  have c6 := exchanges_at (k := k) (by omega) JG hG
  rw [same_exch SG] at c6
  have z1 := waiting_cost_at (k := k) (by omega) J h
  have z2 := least_waiting_at (k := k) (by omega) J
  have z3 := lots_by_ratio_at (k := k) (by omega) J
  have z4 : CF T k 19 [dI ts, dI ws] = .ret (dI (rowF ts ws)) [] := best_waiting_row_at (k := k) (by omega) J
  have z5 := count_at (k := k) (by omega) J
  have z6 := exchanges_at (k := k) (by omega) J h
  have z7 := is_best_waiting_row_at (k := k) (by omega) J h
  obtain ⟨nm, g3, e3, pm, q3⟩ := order_at (k := k) (by omega) q2 (by omega) (xs := jobs ts.length) (by rw [jobs_len]; exact hn)
  have hN := isRow_of_perm pm
  have JN := nm_jobs J hN
  obtain ⟨h2, er2⟩ := row2_ok hN h
  have nl : (nm.map (at_ ts)).length = ts.length := by rw [List.length_map, hN.len]
  have hN2 : IsRow (nm.map (at_ ts)).length (r.map (ixOf nm)) := by rw [nl]; exact h2
  have n1 := waiting_cost_at (k := k) (by omega) JN hN2
  rw [nm_cost hN h h2 er2] at n1
  have n2 := least_waiting_at (k := k) (by omega) JN
  rw [nm_least hN] at n2
  have n5 := count_at (k := k) (by omega) JN
  rw [nm_count J hN] at n5
  have n7 := is_best_waiting_row_at (k := k) (by omega) JN hN2
  rw [nm_best J hN h h2 er2] at n7
  have cb := cost_bd J h
  have lb := least_bd J.toJb
  have fl : mulD (.int f) (.int l) = some (.int (f * l)) := mul_sm (sm_of (by omega) (by omega)) (sm_of (by omega) (by omega))
  have flb := prod_bd (a := f) (b := l) (by omega) hfb.2 (by omega) hlb.2
  have mc : mulD (.int (f * l)) (.int (costF ts ws r)) = some (.int (f * l * costF ts ws r)) := mul_sm (sm_of (by omega) (by omega)) (sm_of (by omega) (by omega))
  have ml : mulD (.int (f * l)) (.int (leastF ts ws)) = some (.int (f * l * leastF ts ws)) := mul_sm (sm_of (by omega) (by omega)) (sm_of (by omega) (by omega))
  obtain ⟨ll1, ll2⟩ := lots_len J
  generalize lotsOf ts ws = L at *
  generalize hrow : rowF ts ws = row at *
  have rowl : row.length ≤ 1000 := by
    rw [← hrow]
    exact Nat.le_trans (byR_len _ _ _) (by omega)
  have hex : ((exchF (gn ts ws) 144 r).map fun (p : Nat) => (p : Int)).length ≤ 1000 := by
    rw [List.length_map]
    have : ∀ (n : Nat) (r : List Int), (exchF (gn ts ws) n r).length ≤ n := fun n => by
      induction n with
      | zero => intro r; simp [exchF]
      | succ n ih =>
        intro r
        unfold exchF
        cases firstG (gn ts ws) r with
        | none => simp
        | some p => simp only [List.length_cons]; have := ih (swapF r p); omega
    exact Nat.le_trans (this 144 r) (by omega)
  generalize (exchF (gn ts ws) 144 r).map (fun (p : Nat) => (p : Int)) = ex_ at *
  generalize hlo : (ts.map fun x => f * x) = lo at *
  generalize hhe : (ws.map fun x => l * x) = he at *
  generalize hV : [D.int (f * l * costF ts ws r), .int (f * l * leastF ts ws), dL L, dI row, .int (countF L), dI ex_] = V
  generalize hU : [D.int (costF ts ws r), .int (leastF ts ws), .int (countF L), .bl (bestF (gn ts ws) r)] = U
  have pl : Pl 3 (.lst (V ++ U)) := by
    subst hV hU
    refine .lst 2 _ (fun d hd => ?_) (by simp)
    simp only [List.mem_cons, List.mem_append, List.not_mem_nil, or_false] at hd
    rcases hd with (rfl | rfl | rfl | rfl | rfl | rfl) | (rfl | rfl | rfl | rfl)
    · exact .int _ _
    · exact .int _ _
    · exact pl_lots (by omega) fun l hl => by have := ll2 l hl; omega
    · exact pl_ints 1 rowl
    · exact .int _ _
    · exact pl_ints 1 hex
    · exact .int _ _
    · exact .int _ _
    · exact .int _ _
    · exact .bl _ _
  have exx := exact_at 3 (k := k) (.lst (V ++ U)) (by omega) pl
  have avu : addD (.lst V) (.lst U) = some (.lst (V ++ U)) := add_lst (by subst hV hU; simp)
  have r1 : rngOk (ts.length : Int) = true := rngOk_len (sz12 (by omega))
  refine ⟨g3, ?_, gn_up q3 (by omega)⟩
  rw [cf_41]
  refine runF_ret (env := EG ts ws r (some g3) (some (.int f)) (some (.int l)) (some (dI lo)) (some (dI he)) (some (.lst (V ++ U))) (some (.lst (V ++ U))) (some (dI nm)) (some (dI (nm.map (at_ ts)))) (some (dI (nm.map (at_ ws)))) (some (dI (r.map (ixOf nm))))) ?_ rfl rfl rfl
  show exs (CF T k) f_41.body (EG ts ws r (some g) none none none none none none none none none none) = _
  have ea : ev (CF T k) (.bin .FloorDiv (.int 1000) (.bi .max (.cons (.var 1) .nil))) (EG ts ws r (some g) none none none none none none none none none none) = .ok (.int ((1000 : Int).fdiv m1)) (EG ts ws r (some g) none none none none none none none none none none) := ev_bin (env1 := EG ts ws r (some g) none none none none none none none none none none) (x := .int 1000) (y := .int m1) (by simp -implicitDefEqProofs [runF, exs, ex, evb, evi, evc, evo, ev, evs, getE, callD, argsAt, outsAt, outsOf, IEs.owns, binD, cmpD, biD, addD, subD, leD, ltD, isiD, truD, negD, isL, eq_int, itemsD, bindT, len_dI, sz0, sz1, sz2, sz3, sz4, sz5, sz6, kt1, kt2, kt3, kt4, kt5, kt6, kt7, kt8, kt9, kt10, kt11, kt12, kt13, kt14, kt15, EG]) (ev_bi1 (x := dI ts) (by simp -implicitDefEqProofs [runF, exs, ex, evb, evi, evc, evo, ev, evs, getE, callD, argsAt, outsAt, outsOf, IEs.owns, binD, cmpD, biD, addD, subD, leD, ltD, isiD, truD, negD, isL, eq_int, itemsD, bindT, len_dI, sz0, sz1, sz2, sz3, sz4, sz5, sz6, kt1, kt2, kt3, kt4, kt5, kt6, kt7, kt8, kt9, kt10, kt11, kt12, kt13, kt14, kt15, EG]) em1) d1
  have eb : ev (CF T k) (.bin .FloorDiv (.int 1000) (.bi .max (.cons (.int 1) (.cons (.bi .max (.cons (.var 2) .nil)) .nil)))) (EG ts ws r (some g1) none none none none none none none none none none) = .ok (.int ((1000 : Int).fdiv (max 1 m2))) (EG ts ws r (some g1) none none none none none none none none none none) := ev_bin (env1 := EG ts ws r (some g1) none none none none none none none none none none) (x := .int 1000) (y := .int (max 1 m2)) (by simp -implicitDefEqProofs [runF, exs, ex, evb, evi, evc, evo, ev, evs, getE, callD, argsAt, outsAt, outsOf, IEs.owns, binD, cmpD, biD, addD, subD, leD, ltD, isiD, truD, negD, isL, eq_int, itemsD, bindT, len_dI, sz0, sz1, sz2, sz3, sz4, sz5, sz6, kt1, kt2, kt3, kt4, kt5, kt6, kt7, kt8, kt9, kt10, kt11, kt12, kt13, kt14, kt15, EG]) (ev_bi2 (env1 := EG ts ws r (some g1) none none none none none none none none none none) (x := .int 1) (y := .int m2) (by simp -implicitDefEqProofs [runF, exs, ex, evb, evi, evc, evo, ev, evs, getE, callD, argsAt, outsAt, outsOf, IEs.owns, binD, cmpD, biD, addD, subD, leD, ltD, isiD, truD, negD, isL, eq_int, itemsD, bindT, len_dI, sz0, sz1, sz2, sz3, sz4, sz5, sz6, kt1, kt2, kt3, kt4, kt5, kt6, kt7, kt8, kt9, kt10, kt11, kt12, kt13, kt14, kt15, EG]) (ev_bi1 (x := dI ws) (by simp -implicitDefEqProofs [runF, exs, ex, evb, evi, evc, evo, ev, evs, getE, callD, argsAt, outsAt, outsOf, IEs.owns, binD, cmpD, biD, addD, subD, leD, ltD, isiD, truD, negD, isL, eq_int, itemsD, bindT, len_dI, sz0, sz1, sz2, sz3, sz4, sz5, sz6, kt1, kt2, kt3, kt4, kt5, kt6, kt7, kt8, kt9, kt10, kt11, kt12, kt13, kt14, kt15, EG]) em2) (max_D 1 m2)) d5
  have e1c := ev_own1 (C := CF T k) (r := 32) (env := EG ts ws r (some g) none none none none none none none none none none) (g := g) (g' := g1) (by rfl) ea (fun i z => by cases z) e1
  have e2c := ev_own1 (C := CF T k) (r := 32) (env := EG ts ws r (some g1) none none none none none none none none none none) (g := g1) (g' := g2) (by rfl) eb (fun i z => by cases z) e2
  have e1d : ev (CF T k) (.bin .Add (.int 1) (.call 32 (.cons (.own 0) (.cons (.bin .FloorDiv (.int 1000) (.bi .max (.cons (.var 1) .nil))) .nil)))) (EG ts ws r (some g) none none none none none none none none none none) = .ok (.int f) (EG ts ws r (some g1) none none none none none none none none none none) := ev_bin (op := .Add) (env1 := EG ts ws r (some g) none none none none none none none none none none) (x := .int 1) (y := .int x) (by simp -implicitDefEqProofs [runF, exs, ex, evb, evi, evc, evo, ev, evs, getE, callD, argsAt, outsAt, outsOf, IEs.owns, binD, cmpD, biD, addD, subD, leD, ltD, isiD, truD, negD, isL, eq_int, itemsD, bindT, len_dI, sz0, sz1, sz2, sz3, sz4, sz5, sz6, kt1, kt2, kt3, kt4, kt5, kt6, kt7, kt8, kt9, kt10, kt11, kt12, kt13, kt14, kt15, ]) e1c (by rw [← hf]; rfl)
  have e2d : ev (CF T k) (.bin .Add (.int 1) (.call 32 (.cons (.own 0) (.cons (.bin .FloorDiv (.int 1000) (.bi .max (.cons (.int 1) (.cons (.bi .max (.cons (.var 2) .nil)) .nil)))) .nil)))) (EG ts ws r (some g1) none none none none none none none none none none) = .ok (.int l) (EG ts ws r (some g2) none none none none none none none none none none) := ev_bin (op := .Add) (env1 := EG ts ws r (some g1) none none none none none none none none none none) (x := .int 1) (y := .int y) (by simp -implicitDefEqProofs [runF, exs, ex, evb, evi, evc, evo, ev, evs, getE, callD, argsAt, outsAt, outsOf, IEs.owns, binD, cmpD, biD, addD, subD, leD, ltD, isiD, truD, negD, isL, eq_int, itemsD, bindT, len_dI, sz0, sz1, sz2, sz3, sz4, sz5, sz6, kt1, kt2, kt3, kt4, kt5, kt6, kt7, kt8, kt9, kt10, kt11, kt12, kt13, kt14, kt15, ]) e2c (by rw [← hl]; rfl)
  refine (exs_next (env1 := EG ts ws r (some g2) (some (.int f)) (some (.int l)) none none none none none none none none) ?_).trans ?_
  · show ex (CF T k) (.set (.tp [4, 5]) false (.tup (.cons _ (.cons _ .nil)))) _ = _
    rw [ex, ev, evs, e1d]
    simp only [Res.bind_ok]
    rw [evs, e2d]
    simp only [Res.bind_ok, evs]
    simp -implicitDefEqProofs [runF, exs, ex, evb, evi, evc, evo, ev, evs, getE, callD, argsAt, outsAt, outsOf, IEs.owns, binD, cmpD, biD, addD, subD, leD, ltD, isiD, truD, negD, isL, eq_int, itemsD, bindT, len_dI, sz0, sz1, sz2, sz3, sz4, sz5, sz6, kt1, kt2, kt3, kt4, kt5, kt6, kt7, kt8, kt9, kt10, kt11, kt12, kt13, kt14, kt15, EG]
  have lo1 : ev (CF T k) l_41_0 (EG ts ws r (some g2) (some (.int f)) (some (.int l)) none none none none none none none none) = .ok (dI lo) (EG ts ws r (some g2) (some (.int f)) (some (.int l)) none none none none none none none none) := by
    have := ev_lcm (α := Int) (C := CF T k) (i := 8) (it := .val (.var 1)) (e := .bin .Mult (.var 4) (.var 8)) (env := EG ts ws r (some g2) (some (.int f)) (some (.int l)) none none none none none none none none) (g := fun t => .int (f * t)) (inj := .int) ts (by simp [EG]) (by simp -implicitDefEqProofs [runF, exs, ex, evb, evi, evc, evo, ev, evs, getE, callD, argsAt, outsAt, outsOf, IEs.owns, binD, cmpD, biD, addD, subD, leD, ltD, isiD, truD, negD, isL, eq_int, itemsD, bindT, len_dI, sz0, sz1, sz2, sz3, sz4, sz5, sz6, kt1, kt2, kt3, kt4, kt5, kt6, kt7, kt8, kt9, kt10, kt11, kt12, kt13, kt14, kt15, EG]) (sz12 (by omega)) (fun t ht => by
      have := J.t t ht
      have m1 := mul_sm (x := f) (y := t) (sm_of (by omega) (by omega)) (sm_of (by omega) (by omega))
      simp -implicitDefEqProofs [runF, exs, ex, evb, evi, evc, evo, ev, evs, getE, callD, argsAt, outsAt, outsOf, IEs.owns, binD, cmpD, biD, addD, subD, leD, ltD, isiD, truD, negD, isL, eq_int, itemsD, bindT, len_dI, sz0, sz1, sz2, sz3, sz4, sz5, sz6, kt1, kt2, kt3, kt4, kt5, kt6, kt7, kt8, kt9, kt10, kt11, kt12, kt13, kt14, kt15, EG, m1])
    rw [← hlo, dI_map (fun x => f * x)]
    exact this
  have he1 : ev (CF T k) l_41_1 (EG ts ws r (some g2) (some (.int f)) (some (.int l)) none none none none none none none none) = .ok (dI he) (EG ts ws r (some g2) (some (.int f)) (some (.int l)) none none none none none none none none) := by
    have := ev_lcm (α := Int) (C := CF T k) (i := 9) (it := .val (.var 2)) (e := .bin .Mult (.var 5) (.var 9)) (env := EG ts ws r (some g2) (some (.int f)) (some (.int l)) none none none none none none none none) (g := fun t => .int (l * t)) (inj := .int) ws (by simp [EG]) (by simp -implicitDefEqProofs [runF, exs, ex, evb, evi, evc, evo, ev, evs, getE, callD, argsAt, outsAt, outsOf, IEs.owns, binD, cmpD, biD, addD, subD, leD, ltD, isiD, truD, negD, isL, eq_int, itemsD, bindT, len_dI, sz0, sz1, sz2, sz3, sz4, sz5, sz6, kt1, kt2, kt3, kt4, kt5, kt6, kt7, kt8, kt9, kt10, kt11, kt12, kt13, kt14, kt15, EG]) (sz12 (by omega)) (fun t ht => by
      have := J.w t ht
      have m1 := mul_sm (x := l) (y := t) (sm_of (by omega) (by omega)) (sm_of (by omega) (by omega))
      simp -implicitDefEqProofs [runF, exs, ex, evb, evi, evc, evo, ev, evs, getE, callD, argsAt, outsAt, outsOf, IEs.owns, binD, cmpD, biD, addD, subD, leD, ltD, isiD, truD, negD, isL, eq_int, itemsD, bindT, len_dI, sz0, sz1, sz2, sz3, sz4, sz5, sz6, kt1, kt2, kt3, kt4, kt5, kt6, kt7, kt8, kt9, kt10, kt11, kt12, kt13, kt14, kt15, EG, m1])
    rw [← hhe, dI_map (fun x => l * x)]
    exact this
  refine (exs_next (ex_par lo1 he1 (by simp [EG]))).trans ?_
  refine (exs_next (env1 := EG ts ws r (some g2) (some (.int f)) (some (.int l)) (some (dI lo)) (some (dI he)) (some (.lst V)) none none none none none) (by
    rw [← hV]
    simp -implicitDefEqProofs [runF, exs, ex, evb, evi, evc, evo, ev, evs, getE, callD, argsAt, outsAt, outsOf, IEs.owns, binD, cmpD, biD, addD, subD, leD, ltD, isiD, truD, negD, isL, eq_int, itemsD, bindT, len_dI, sz0, sz1, sz2, sz3, sz4, sz5, sz6, kt1, kt2, kt3, kt4, kt5, kt6, kt7, kt8, kt9, kt10, kt11, kt12, kt13, kt14, kt15, EG, s_41_7, c1, c2, c3, c4', c5, c6])).trans ?_
  refine (exs_next (env1 := EG ts ws r (some g2) (some (.int f)) (some (.int l)) (some (dI lo)) (some (dI he)) (some (.lst V)) (some (.lst V)) none none none none) (by
    rw [← hV]
    simp -implicitDefEqProofs [runF, exs, ex, evb, evi, evc, evo, ev, evs, getE, callD, argsAt, outsAt, outsOf, IEs.owns, binD, cmpD, biD, addD, subD, leD, ltD, isiD, truD, negD, isL, eq_int, itemsD, bindT, len_dI, sz0, sz1, sz2, sz3, sz4, sz5, sz6, kt1, kt2, kt3, kt4, kt5, kt6, kt7, kt8, kt9, kt10, kt11, kt12, kt13, kt14, kt15, EG, s_41_8, z1, z2, z3, z4, z5, z6, fl, mc, ml])).trans ?_
  have r3 : D.lst (rangeD 0 ts.length) = dI (jobs ts.length) := by rw [rng_jobs]
  have r4 : (ts.length : Int) ≤ 16777216 := by omega
  have elr : ev (CF T k) (.lrg (.bi .len (.cons (.var 1) .nil))) (EG ts ws r (some g2) (some (.int f)) (some (.int l)) (some (dI lo)) (some (dI he)) (some (.lst V)) (some (.lst V)) none none none none) = .ok (dI (jobs ts.length)) (EG ts ws r (some g2) (some (.int f)) (some (.int l)) (some (dI lo)) (some (dI he)) (some (.lst V)) (some (.lst V)) none none none none) := by
    simp -implicitDefEqProofs [runF, exs, ex, evb, evi, evc, evo, ev, evs, getE, callD, argsAt, outsAt, outsOf, IEs.owns, binD, cmpD, biD, addD, subD, leD, ltD, isiD, truD, negD, isL, eq_int, itemsD, bindT, len_dI, sz0, sz1, sz2, sz3, sz4, sz5, sz6, kt1, kt2, kt3, kt4, kt5, kt6, kt7, kt8, kt9, kt10, kt11, kt12, kt13, kt14, kt15, EG, r1, r3, r4]
  have eor := ev_own1 (C := CF T k) (r := 35) (env := EG ts ws r (some g2) (some (.int f)) (some (.int l)) (some (dI lo)) (some (dI he)) (some (.lst V)) (some (.lst V)) none none none none) (g := g2) (g' := g3) (by rfl) elr (fun i z => by cases z) e3
  refine (exs_next (ex_set eor (fun h => by cases h) (by simp [EG]))).trans ?_
  show exs (CF T k) _ (EG ts ws r (some g3) (some (.int f)) (some (.int l)) (some (dI lo)) (some (dI he)) (some (.lst V)) (some (.lst V)) (some (dI nm)) none none none) = _
  have nml : nm.length ≤ 12 := by rw [hN.len]; exact hn
  have ln1 : ev (CF T k) l_41_2 (EG ts ws r (some g3) (some (.int f)) (some (.int l)) (some (dI lo)) (some (dI he)) (some (.lst V)) (some (.lst V)) (some (dI nm)) none none none) = .ok (dI (nm.map (at_ ts))) (EG ts ws r (some g3) (some (.int f)) (some (.int l)) (some (dI lo)) (some (dI he)) (some (.lst V)) (some (.lst V)) (some (dI nm)) none none none) := by
    have := ev_lcm (α := Int) (C := CF T k) (i := 15) (it := .val (.var 12)) (e := .idx (.var 1) (.var 15)) (env := EG ts ws r (some g3) (some (.int f)) (some (.int l)) (some (dI lo)) (some (dI he)) (some (.lst V)) (some (.lst V)) (some (dI nm)) none none none) (g := fun i => .int (at_ ts i)) (inj := .int) nm (by simp [EG]) (by simp -implicitDefEqProofs [runF, exs, ex, evb, evi, evc, evo, ev, evs, getE, callD, argsAt, outsAt, outsOf, IEs.owns, binD, cmpD, biD, addD, subD, leD, ltD, isiD, truD, negD, isL, eq_int, itemsD, bindT, len_dI, sz0, sz1, sz2, sz3, sz4, sz5, sz6, kt1, kt2, kt3, kt4, kt5, kt6, kt7, kt8, kt9, kt10, kt11, kt12, kt13, kt14, kt15, EG]) (sz12 (by omega)) (fun i hi => by
      have a1 := idx_at (xs := ts) (hN.rg i hi).1 (hN.rg i hi).2
      simp -implicitDefEqProofs [runF, exs, ex, evb, evi, evc, evo, ev, evs, getE, callD, argsAt, outsAt, outsOf, IEs.owns, binD, cmpD, biD, addD, subD, leD, ltD, isiD, truD, negD, isL, eq_int, itemsD, bindT, len_dI, sz0, sz1, sz2, sz3, sz4, sz5, sz6, kt1, kt2, kt3, kt4, kt5, kt6, kt7, kt8, kt9, kt10, kt11, kt12, kt13, kt14, kt15, EG, a1])
    rw [dI_map (at_ ts)]
    exact this
  have ln2 : ev (CF T k) l_41_3 (EG ts ws r (some g3) (some (.int f)) (some (.int l)) (some (dI lo)) (some (dI he)) (some (.lst V)) (some (.lst V)) (some (dI nm)) none none none) = .ok (dI (nm.map (at_ ws))) (EG ts ws r (some g3) (some (.int f)) (some (.int l)) (some (dI lo)) (some (dI he)) (some (.lst V)) (some (.lst V)) (some (dI nm)) none none none) := by
    have := ev_lcm (α := Int) (C := CF T k) (i := 15) (it := .val (.var 12)) (e := .idx (.var 2) (.var 15)) (env := EG ts ws r (some g3) (some (.int f)) (some (.int l)) (some (dI lo)) (some (dI he)) (some (.lst V)) (some (.lst V)) (some (dI nm)) none none none) (g := fun i => .int (at_ ws i)) (inj := .int) nm (by simp [EG]) (by simp -implicitDefEqProofs [runF, exs, ex, evb, evi, evc, evo, ev, evs, getE, callD, argsAt, outsAt, outsOf, IEs.owns, binD, cmpD, biD, addD, subD, leD, ltD, isiD, truD, negD, isL, eq_int, itemsD, bindT, len_dI, sz0, sz1, sz2, sz3, sz4, sz5, sz6, kt1, kt2, kt3, kt4, kt5, kt6, kt7, kt8, kt9, kt10, kt11, kt12, kt13, kt14, kt15, EG]) (sz12 (by omega)) (fun i hi => by
      have a1 := idx_at (xs := ws) (hN.rg i hi).1 (by rw [lw]; exact (hN.rg i hi).2)
      simp -implicitDefEqProofs [runF, exs, ex, evb, evi, evc, evo, ev, evs, getE, callD, argsAt, outsAt, outsOf, IEs.owns, binD, cmpD, biD, addD, subD, leD, ltD, isiD, truD, negD, isL, eq_int, itemsD, bindT, len_dI, sz0, sz1, sz2, sz3, sz4, sz5, sz6, kt1, kt2, kt3, kt4, kt5, kt6, kt7, kt8, kt9, kt10, kt11, kt12, kt13, kt14, kt15, EG, a1])
    rw [dI_map (at_ ws)]
    exact this
  refine (exs_next (ex_par ln1 ln2 (by simp [EG]))).trans ?_
  show exs (CF T k) _ (EG ts ws r (some g3) (some (.int f)) (some (.int l)) (some (dI lo)) (some (dI he)) (some (.lst V)) (some (.lst V)) (some (dI nm)) (some (dI (nm.map (at_ ts)))) (some (dI (nm.map (at_ ws)))) none) = _
  generalize nm.map (at_ ts) = ot at *
  generalize nm.map (at_ ws) = ow at *
  have ln3 : ev (CF T k) l_41_4 (EG ts ws r (some g3) (some (.int f)) (some (.int l)) (some (dI lo)) (some (dI he)) (some (.lst V)) (some (.lst V)) (some (dI nm)) (some (dI ot)) (some (dI ow)) none) = .ok (dI (r.map (ixOf nm))) (EG ts ws r (some g3) (some (.int f)) (some (.int l)) (some (dI lo)) (some (dI he)) (some (.lst V)) (some (.lst V)) (some (dI nm)) (some (dI ot)) (some (dI ow)) none) := by
    have := ev_lcm (α := Int) (C := CF T k) (i := 15) (it := .val (.var 3)) (e := .idxof (.var 12) (.var 15)) (env := EG ts ws r (some g3) (some (.int f)) (some (.int l)) (some (dI lo)) (some (dI he)) (some (.lst V)) (some (.lst V)) (some (dI nm)) (some (dI ot)) (some (dI ow)) none) (g := fun i => .int (ixOf nm i)) (inj := .int) r (by simp [EG]) (by simp -implicitDefEqProofs [runF, exs, ex, evb, evi, evc, evo, ev, evs, getE, callD, argsAt, outsAt, outsOf, IEs.owns, binD, cmpD, biD, addD, subD, leD, ltD, isiD, truD, negD, isL, eq_int, itemsD, bindT, len_dI, sz0, sz1, sz2, sz3, sz4, sz5, sz6, kt1, kt2, kt3, kt4, kt5, kt6, kt7, kt8, kt9, kt10, kt11, kt12, kt13, kt14, kt15, EG]) (sz12 (by rw [h.len]; omega)) (fun i hi => by
      have a1 := idxof_dI ((hN.jobs.trans h.jobs.symm).mem_iff.mpr hi)
      simp -implicitDefEqProofs [runF, exs, ex, evb, evi, evc, evo, ev, evs, getE, callD, argsAt, outsAt, outsOf, IEs.owns, binD, cmpD, biD, addD, subD, leD, ltD, isiD, truD, negD, isL, eq_int, itemsD, bindT, len_dI, sz0, sz1, sz2, sz3, sz4, sz5, sz6, kt1, kt2, kt3, kt4, kt5, kt6, kt7, kt8, kt9, kt10, kt11, kt12, kt13, kt14, kt15, EG, a1])
    rw [dI_map (ixOf nm)]
    exact this
  refine (exs_next (ex_set ln3 (fun h => by cases h) (by simp [EG]))).trans ?_
  generalize r.map (ixOf nm) = r2 at *
  show exs (CF T k) _ (EG ts ws r (some g3) (some (.int f)) (some (.int l)) (some (dI lo)) (some (dI he)) (some (.lst V)) (some (.lst V)) (some (dI nm)) (some (dI ot)) (some (dI ow)) (some (dI r2))) = _
  refine (exs_next (ex_set (d := .lst (V ++ U)) (env1 := EG ts ws r (some g3) (some (.int f)) (some (.int l)) (some (dI lo)) (some (dI he)) (some (.lst V)) (some (.lst V)) (some (dI nm)) (some (dI ot)) (some (dI ow)) (some (dI r2))) (ev_bin (op := .Add) (env1 := EG ts ws r (some g3) (some (.int f)) (some (.int l)) (some (dI lo)) (some (dI he)) (some (.lst V)) (some (.lst V)) (some (dI nm)) (some (dI ot)) (some (dI ow)) (some (dI r2))) (x := .lst V) (y := .lst U) (by simp -implicitDefEqProofs [runF, exs, ex, evb, evi, evc, evo, ev, evs, getE, callD, argsAt, outsAt, outsOf, IEs.owns, binD, cmpD, biD, addD, subD, leD, ltD, isiD, truD, negD, isL, eq_int, itemsD, bindT, len_dI, sz0, sz1, sz2, sz3, sz4, sz5, sz6, kt1, kt2, kt3, kt4, kt5, kt6, kt7, kt8, kt9, kt10, kt11, kt12, kt13, kt14, kt15, EG]) (by
    rw [← hU]
    simp -implicitDefEqProofs [runF, exs, ex, evb, evi, evc, evo, ev, evs, getE, callD, argsAt, outsAt, outsOf, IEs.owns, binD, cmpD, biD, addD, subD, leD, ltD, isiD, truD, negD, isL, eq_int, itemsD, bindT, len_dI, sz0, sz1, sz2, sz3, sz4, sz5, sz6, kt1, kt2, kt3, kt4, kt5, kt6, kt7, kt8, kt9, kt10, kt11, kt12, kt13, kt14, kt15, EG, n1, n2, n5, n7]) avu) (fun h => by cases h) (by simp [EG]))).trans ?_
  show exs (CF T k) _ (EG ts ws r (some g3) (some (.int f)) (some (.int l)) (some (dI lo)) (some (dI he)) (some (.lst (V ++ U))) (some (.lst V)) (some (dI nm)) (some (dI ot)) (some (dI ow)) (some (dI r2))) = _
  refine (exs_next (ex_set (d := .lst (V ++ U)) (env1 := EG ts ws r (some g3) (some (.int f)) (some (.int l)) (some (dI lo)) (some (dI he)) (some (.lst (V ++ U))) (some (.lst V)) (some (dI nm)) (some (dI ot)) (some (dI ow)) (some (dI r2))) (ev_bin (op := .Add) (env1 := EG ts ws r (some g3) (some (.int f)) (some (.int l)) (some (dI lo)) (some (dI he)) (some (.lst (V ++ U))) (some (.lst V)) (some (dI nm)) (some (dI ot)) (some (dI ow)) (some (dI r2))) (x := .lst V) (y := .lst U) (by simp -implicitDefEqProofs [runF, exs, ex, evb, evi, evc, evo, ev, evs, getE, callD, argsAt, outsAt, outsOf, IEs.owns, binD, cmpD, biD, addD, subD, leD, ltD, isiD, truD, negD, isL, eq_int, itemsD, bindT, len_dI, sz0, sz1, sz2, sz3, sz4, sz5, sz6, kt1, kt2, kt3, kt4, kt5, kt6, kt7, kt8, kt9, kt10, kt11, kt12, kt13, kt14, kt15, EG]) (by
    rw [← hU]
    simp -implicitDefEqProofs [runF, exs, ex, evb, evi, evc, evo, ev, evs, getE, callD, argsAt, outsAt, outsOf, IEs.owns, binD, cmpD, biD, addD, subD, leD, ltD, isiD, truD, negD, isL, eq_int, itemsD, bindT, len_dI, sz0, sz1, sz2, sz3, sz4, sz5, sz6, kt1, kt2, kt3, kt4, kt5, kt6, kt7, kt8, kt9, kt10, kt11, kt12, kt13, kt14, kt15, EG, z1, z2, z5, z7]) avu) (fun h => by cases h) (by simp [EG]))).trans ?_
  refine exs_ret (ex_ret ?_)
  generalize V ++ U = VU at *
  simp -implicitDefEqProofs [runF, exs, ex, evb, evi, evc, evo, ev, evs, getE, callD, argsAt, outsAt, outsOf, IEs.owns, binD, cmpD, biD, addD, subD, leD, ltD, isiD, truD, negD, isL, eq_int, itemsD, bindT, len_dI, sz0, sz1, sz2, sz3, sz4, sz5, sz6, kt1, kt2, kt3, kt4, kt5, kt6, kt7, kt8, kt9, kt10, kt11, kt12, kt13, kt14, kt15, EG, exx]
end LT
namespace LT
open PySem VI
/-! WD: the law -/
theorem turn_at {k : Nat} (hk : 10 ≤ k) {m : Nat} {s g : D} {t most least : Int} {o3 o4 o5 o6 o7 : Option D} (hg : Gn m g) (hm : m + 100000 < M0) (t0 : 0 ≤ t) (t4 : t < 4) :
    ∃ g' p3 p4 p5 p6 p7, exs (CF T k) w_46_7 [some s, some g, some (.int t), o3, o4, o5, o6, o7] = .next [some s, some g', some (.int t), p3, p4, p5, p6, p7] ∧ Gn (m + 20000) g' := by
  obtain ⟨mo, em, hmo⟩ := idx4 (a := 12) (b := 3) (c := 6) (d := 9) t0 t4
  obtain ⟨ts, g1, e1, l1, l2, ht, q1⟩ := times_at (k := k) (by omega) hg (by omega) (most := mo) (by omega) (by omega)
  have l12 : ts.length ≤ 12 := by omega
  obtain ⟨le, ele, le0, le1⟩ : ∃ le : Int, biD .int [.bl (decide (1 < t))] = some (.int le) ∧ 0 ≤ le ∧ le ≤ 1 := by
    by_cases q : 1 < t
    · exact ⟨1, by simp [biD, q], by omega, by omega⟩
    · exact ⟨0, by simp [biD, q], by omega, by omega⟩
  obtain ⟨ws, g2, e2, l3, hw, q2⟩ := weights_at (k := k) (by omega) q1 (by omega) (n := ts.length) (least := le) l12 le0 le1
  have J : Jobs ts ws := ⟨⟨l12, l3, ht, fun x hx => by have := hw x hx; omega⟩, l1⟩
  have e3 := copied_at (k := k) (by omega) J
  obtain ⟨row, g3, e4, pm, q3⟩ := order_at (k := k) (by omega) q2 (by omega) (xs := jobs ts.length) (by rw [jobs_len]; exact l12)
  have hr := isRow_of_perm pm
  have hb : IsRow ts.length (rowF ts ws) := isRow_of_perm (row_ok (gn_rt J)).1
  have e5 : CF T k 19 [dI ts, dI ws] = .ret (dI (rowF ts ws)) [] := best_waiting_row_at (k := k) (by omega) J
  have t1 := turned_at (k := k) (by omega) J hr
  have t2 := turned_at (k := k) (by omega) J hb
  have x1 := exchanges_right_at (k := k) (by omega) J hr
  have x2 := exchanges_right_at (k := k) (by omega) J hb
  obtain ⟨g4, e6, q4⟩ := grown_at (k := k) (by omega) q3 (by omega) J hr
  obtain ⟨g5, e7, q5⟩ := beside_at (k := k) (by omega) q4 (by omega) J
  obtain ⟨g6, e8, q6⟩ := split_at (k := k) (by omega) q5 (by omega) J
  have e9 := exact_at 3 (k := k) (.lst [dI ts, dI ws]) (by omega) (.lst 2 _ (fun d hd => by
    have : d = dI ts ∨ d = dI ws := by simpa using hd
    rcases this with rfl | rfl
    · exact pl_ints 1 (by omega)
    · exact pl_ints 1 (by omega)) (by simp))
  generalize hrw : rowF ts ws = rb at *
  have r1 : rngOk (ts.length : Int) = true := rngOk_len (sz12 (by omega))
  have r3 : D.lst (rangeD 0 ts.length) = dI (jobs ts.length) := by rw [rng_jobs]
  have r4 : (ts.length : Int) ≤ 16777216 := by omega
  refine ⟨g6, some (dI ts), some (dI ws), some (.lst [dI ts, dI ws]), some (dI row), some (dI rb), ?_, gn_up q6 (by omega)⟩
  unfold w_46_7
  refine (exs_next (env1 := [some s, some g1, some (.int t), some (dI ts), o4, o5, o6, o7]) (by simp -implicitDefEqProofs [runF, exs, ex, evb, evi, evc, evo, ev, evs, getE, callD, argsAt, outsAt, outsOf, IEs.owns, binD, cmpD, biD, addD, subD, leD, ltD, isiD, truD, negD, isL, eq_int, itemsD, bindT, len_dI, sz0, sz1, sz2, sz3, sz4, sz5, sz6, kt1, kt2, kt3, kt4, kt5, kt6, kt7, kt8, kt9, kt10, kt11, kt12, kt13, kt14, kt15, s_46_1, em, e1])).trans ?_
  refine (exs_next (env1 := [some s, some g2, some (.int t), some (dI ts), some (dI ws), o5, o6, o7]) ?_).trans ?_
  · by_cases q : 1 < t
    · have : le = 1 := by
        have := ele
        simp [biD, q] at this
        exact this.symm
      subst this
      simp -implicitDefEqProofs [runF, exs, ex, evb, evi, evc, evo, ev, evs, getE, callD, argsAt, outsAt, outsOf, IEs.owns, binD, cmpD, biD, addD, subD, leD, ltD, isiD, truD, negD, isL, eq_int, itemsD, bindT, len_dI, sz0, sz1, sz2, sz3, sz4, sz5, sz6, kt1, kt2, kt3, kt4, kt5, kt6, kt7, kt8, kt9, kt10, kt11, kt12, kt13, kt14, kt15, s_46_2, q, e2]
    · have : le = 0 := by
        have := ele
        simp [biD, q] at this
        exact this.symm
      subst this
      simp -implicitDefEqProofs [runF, exs, ex, evb, evi, evc, evo, ev, evs, getE, callD, argsAt, outsAt, outsOf, IEs.owns, binD, cmpD, biD, addD, subD, leD, ltD, isiD, truD, negD, isL, eq_int, itemsD, bindT, len_dI, sz0, sz1, sz2, sz3, sz4, sz5, sz6, kt1, kt2, kt3, kt4, kt5, kt6, kt7, kt8, kt9, kt10, kt11, kt12, kt13, kt14, kt15, s_46_2, q, e2]
  · refine (exs_next (env1 := [some s, some g3, some (.int t), some (dI ts), some (dI ws), some (.lst [dI ts, dI ws]), some (dI row), o7]) (by simp -implicitDefEqProofs [runF, exs, ex, evb, evi, evc, evo, ev, evs, getE, callD, argsAt, outsAt, outsOf, IEs.owns, binD, cmpD, biD, addD, subD, leD, ltD, isiD, truD, negD, isL, eq_int, itemsD, bindT, len_dI, sz0, sz1, sz2, sz3, sz4, sz5, sz6, kt1, kt2, kt3, kt4, kt5, kt6, kt7, kt8, kt9, kt10, kt11, kt12, kt13, kt14, kt15, s_46_3, e3, r1, r3, r4, e4])).trans ?_
    refine (exs_next (env1 := [some s, some g3, some (.int t), some (dI ts), some (dI ws), some (.lst [dI ts, dI ws]), some (dI row), some (dI rb)]) (by simp -implicitDefEqProofs [runF, exs, ex, evb, evi, evc, evo, ev, evs, getE, callD, argsAt, outsAt, outsOf, IEs.owns, binD, cmpD, biD, addD, subD, leD, ltD, isiD, truD, negD, isL, eq_int, itemsD, bindT, len_dI, sz0, sz1, sz2, sz3, sz4, sz5, sz6, kt1, kt2, kt3, kt4, kt5, kt6, kt7, kt8, kt9, kt10, kt11, kt12, kt13, kt14, kt15, s_46_4, e5, forD, w_46_0, t1, t2, x1, x2])).trans ?_
    refine (exs_next (env1 := [some s, some g6, some (.int t), some (dI ts), some (dI ws), some (.lst [dI ts, dI ws]), some (dI row), some (dI rb)]) (by simp -implicitDefEqProofs [runF, exs, ex, evb, evi, evc, evo, ev, evs, getE, callD, argsAt, outsAt, outsOf, IEs.owns, binD, cmpD, biD, addD, subD, leD, ltD, isiD, truD, negD, isL, eq_int, itemsD, bindT, len_dI, sz0, sz1, sz2, sz3, sz4, sz5, sz6, kt1, kt2, kt3, kt4, kt5, kt6, kt7, kt8, kt9, kt10, kt11, kt12, kt13, kt14, kt15, s_46_5, e6, e7, e8])).trans ?_
    exact (exs_next (env1 := [some s, some g6, some (.int t), some (dI ts), some (dI ws), some (.lst [dI ts, dI ws]), some (dI row), some (dI rb)]) (by simp -implicitDefEqProofs [runF, exs, ex, evb, evi, evc, evo, ev, evs, getE, callD, argsAt, outsAt, outsOf, IEs.owns, binD, cmpD, biD, addD, subD, leD, ltD, isiD, truD, negD, isL, eq_int, itemsD, bindT, len_dI, sz0, sz1, sz2, sz3, sz4, sz5, sz6, kt1, kt2, kt3, kt4, kt5, kt6, kt7, kt8, kt9, kt10, kt11, kt12, kt13, kt14, kt15, s_46_6, e9])).trans exs_nil
theorem law_at {k : Nat} (hk : 11 ≤ k) {ns : List Int} (h : ns.length ≤ sizeLine) : CF T k 46 [.scr ns] = .ret (.bl true) [] := by
  obtain ⟨k, rfl⟩ : ∃ j, k = j + 1 := ⟨k - 1, by omega⟩
  obtain ⟨g, e1, q1⟩ := gen_at (k := k) (by omega) (ns := ns) (i := 0) h (by omega)
  have M0d : M0 = 1000000 := rfl
  have hg : isL g = true := by
    obtain ⟨a, b, c, rfl, _⟩ := q1
    rfl
  obtain ⟨g1, a3, a4, a5, a6, a7, b1, q2⟩ := turn_at (k := k) (by omega) (s := .scr ns) (t := 0) (most := 0) (least := 0) (o3 := none) (o4 := none) (o5 := none) (o6 := none) (o7 := none) q1 (by omega) (by omega) (by omega)
  obtain ⟨g2, c3, c4, c5, c6, c7, b2, q3⟩ := turn_at (k := k) (by omega) (s := .scr ns) (t := 1) (most := 0) (least := 0) (o3 := a3) (o4 := a4) (o5 := a5) (o6 := a6) (o7 := a7) q2 (by omega) (by omega) (by omega)
  obtain ⟨g3, d3, d4, d5, d6, d7, b3, q4⟩ := turn_at (k := k) (by omega) (s := .scr ns) (t := 2) (most := 0) (least := 0) (o3 := c3) (o4 := c4) (o5 := c5) (o6 := c6) (o7 := c7) q3 (by omega) (by omega) (by omega)
  obtain ⟨g4, f3, f4, f5, f6, f7, b4, q5⟩ := turn_at (k := k) (by omega) (s := .scr ns) (t := 3) (most := 0) (least := 0) (o3 := d3) (o4 := d4) (o5 := d5) (o6 := d6) (o7 := d7) q4 (by omega) (by omega) (by omega)
  have r : rngOk 4 = true := by decide
  rw [cf_46]
  refine runF_ret (env := [some (.scr ns), some g4, some (.int 3), f3, f4, f5, f6, f7]) ?_ rfl rfl rfl
  show exs (CF T k) f_46.body [some (.scr ns), none, none, none, none, none, none, none] = _
  refine (exs_next (ex_set (d := g) (env1 := [some (.scr ns), none, none, none, none, none, none, none]) (by
    have e1' : CF T k 34 [.scr ns, .int 0] = .ret g [] := e1
    simp -implicitDefEqProofs [runF, exs, ex, evb, evi, evc, evo, ev, evs, getE, callD, argsAt, outsAt, outsOf, IEs.owns, binD, cmpD, biD, addD, subD, leD, ltD, isiD, truD, negD, isL, eq_int, itemsD, bindT, len_dI, sz0, sz1, sz2, sz3, sz4, sz5, sz6, kt1, kt2, kt3, kt4, kt5, kt6, kt7, kt8, kt9, kt10, kt11, kt12, kt13, kt14, kt15, e1']) (fun _ => hg) (by simp))).trans ?_
  refine (exs_next (env1 := [some (.scr ns), some g4, some (.int 3), f3, f4, f5, f6, f7]) ((ex_for (ds := [.int 0, .int 1, .int 2, .int 3]) (env1 := [some (.scr ns), some g, none, none, none, none, none, none]) (by
    simp -implicitDefEqProofs [runF, exs, ex, evb, evi, evc, evo, ev, evs, getE, callD, argsAt, outsAt, outsOf, IEs.owns, binD, cmpD, biD, addD, subD, leD, ltD, isiD, truD, negD, isL, eq_int, itemsD, bindT, len_dI, sz0, sz1, sz2, sz3, sz4, sz5, sz6, kt1, kt2, kt3, kt4, kt5, kt6, kt7, kt8, kt9, kt10, kt11, kt12, kt13, kt14, kt15, r]
    rfl)).trans ?_)).trans (exs_ret (ex_ret (by simp -implicitDefEqProofs [runF, exs, ex, evb, evi, evc, evo, ev, evs, getE, callD, argsAt, outsAt, outsOf, IEs.owns, binD, cmpD, biD, addD, subD, leD, ltD, isiD, truD, negD, isL, eq_int, itemsD, bindT, len_dI, sz0, sz1, sz2, sz3, sz4, sz5, sz6, kt1, kt2, kt3, kt4, kt5, kt6, kt7, kt8, kt9, kt10, kt11, kt12, kt13, kt14, kt15, ])))
  simp [forD, bindT, b1, b2, b3, b4]
theorem plain (ns : List Int) (h : ns.length ≤ 63) : CF T 60 46 [.scr ns] = .ret (.bl true) [] := law_at (by omega) (Nat.le_trans h (sz_le (by omega)))
end LT
namespace LT
open PySem PySem.Spec PyProof.Rows L2 VI
abbrev R : PySem.W.OpenRow := PySem.W.OpenLaw.row PySem.Challenge.rw_joborders_k07_whole_waiting_obeys
abbrev hk : PySem.W.Hook := hookV R.prog xs xb 4 (faL X ci cs) (X.map (·.d))
def ob (s : PySem.W.SharedT) : AlV := obsVG R.prog xs xb 4 (faL X ci cs) (X.map (·.d)) (HandSHeadRun.getT s)
theorem ob_eq (s : PySem.W.SharedT) : ob s = hk.obs s.abs := obsVG_eq (HandSHeadRun.getT_eq s)
def lo0 : List Str := ["is_whole", "is_count", "is_below", "are_counts", "are_times", "check_times", "are_weights_of", "check_weights", "check_job", "is_row_of", "check_jobs", "check_any_row", "ends_of", "cost_of", "gain_of", "waiting_cost", "least_of", "least_waiting", "by_ratio", "best_waiting_row", "is_best_of", "is_best_waiting_row", "gain", "first_gain", "exchanged", "exchanges", "product_to", "alike_lots", "count_best_waiting_rows", "lots_by_ratio"]
def lo1 : List Str := ["cost_with", "_law_hash", "_law_random", "_law_cell", "_law_generator", "_law_drawn_order", "_law_exact", "_law_copied", "_law_times", "_law_weights", "_law_wrong_pairs", "_law_grown_right", "_law_turned_right", "_law_exchanges_right", "_law_beside_right", "_law_split_right", "InvalidJob", "InvalidPart", "InvalidRow", "InvalidTimes", "InvalidWeights", "WorkError", "MOST_JOBS", "MOST_TIME", "MOST_WEIGHT"]
abbrev lo : List Str := lo0 ++ lo1
theorem run (w : World) : HandSHeadRun.RunEq R (PySem.W.view R.prog [60]) hk ob 20000 lo w := by
  intro os
  kernel_rfl
end LT
open PySem PySem.W PySem.Calls PyProof.Rows in
theorem PySem.Challenge.cw_joborders_k07_whole_waiting_obeys_holds : PySem.Challenge.rw_joborders_k07_whole_waiting_obeys.Holds := by
  w_on; o_law
  refine HandSHeadRun.head_any (r := OpenLaw.row PySem.Challenge.rw_joborders_k07_whole_waiting_obeys) (q := view (OpenLaw.row PySem.Challenge.rw_joborders_k07_whole_waiting_obeys).prog [60]) (H := LT.hk) (ob := LT.ob) (M := 20000) (loose := LT.lo) (d := (HandSHeadRun.topDef (OpenLaw.row PySem.Challenge.rw_joborders_k07_whole_waiting_obeys).prog 60)) (kwd := []) LT.ob_eq
    (by kernel_rfl) (fun s => by kernel_rfl) LT.run (by kernel_rfl) (by kernel_rfl) (by kernel_rfl) (by rfl) (by first | assumption | decide +kernel) (by decide +kernel) ⟨rfl, rfl, rfl, rfl, rfl, by decide +kernel⟩ ?hw ?hc
  case hw => w_witness2
  case hc =>
    refine VI.walk_go (l := PySem.Challenge.rw_joborders_k07_whole_waiting_obeys) (n := 63) (k := 62) (x := "script") (CX := VI.CXw (PySem.Challenge.rw_joborders_k07_whole_waiting_obeys).prog) rfl (by decide) (by kernel_rfl) ⟨rfl, by decide, by decide⟩ ?F VI.cx_none
    intro w mg fa h Y G hmg0
    obtain ⟨K, KX, c⟩ := Y
    have hmg : mg ("law" : PySem.Str) = some (.ref fa) := by
      have e : (HandSHeadRun.topDef (OpenLaw.row PySem.Challenge.rw_joborders_k07_whole_waiting_obeys).prog 60).name = ("law" : PySem.Str) := by kernel_rfl
      rw [← e]
      exact hmg0
    exact VI.law_facts (g := 46) (x := LT.X[46]) KX G c LT.hT LT.hs LT.hb LT.hd LT.hkb rfl hmg (by decide) rfl rfl rfl rfl fun ns hl => LT.plain ns hl
