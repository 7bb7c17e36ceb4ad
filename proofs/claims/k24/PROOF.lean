import PyProof.Rows.All
import KE.KStateDown
import Wide.FinOn
import OpenK.AllK
import Wide.All
import PyProof.EqAt
import PyProof.EqKinds
import PyProof.TupleCall
import HandS.ForMost
import HandS.ForExc
import HandS.HeadHook1
import HandS.Wide
import HandS.TupAny
import HandS.TupMul
import HandS.Style
import HandS.IsInst
import HandS.Conv
import HandS.CallSlots
import HandS.ExcOwn
import HandS.RaiseMore
import HandS.SortInts
import HandS.More
import KE.GoesEnum
import HandS.HeadWalk
import HandS.Zip
import HandS.TryOnly
import HandS.TryMany
import PyProof.ExcBaseAll.ValueError
import HandS.WordsExc
import HandS.Defaults
import HandS.Ends
import HandS.Words
import HandS.Head0
import HandS.Head1
import HandS.Head2
import HandS.HeadEnd
import HandS.HeadHook2
import HandS.HeadHook3
import HandS.HeadHook4
import PySem.Challenge.RW_whatifdrawn_k24_webs_judged
set_option Elab.async false
set_option linter.all false
set_option maxRecDepth 100000
namespace IP
open PySem

/-! ### values, environments, results -/
/-- pure values; ref: a boxed object; scr: the script -/
inductive D where
  | non | bl (b : Bool) | int (i : Int) | str (x : Str) | tup (xs : List D) | lst (xs : List D) | scr (xs : List Int) | ref (k : Nat)
  | dct (ks : List D) (vs : List D)
  deriving Inhabited
inductive Slot where
  | none | val (d : D) | own (ds : List D)
  deriving Inhabited
abbrev EnvI := List Slot
/-- a boxed object: a list, a dict, an instance (its class, the attributes that it may have, those that it has) -/
inductive Bx where
  | lst (ds : List D) | dct (ks vs : List D) | ins (c : Str) (al : List Str) (fs : List (Str × D))
  deriving Inhabited
abbrev Sto := List Bx
structure Exc where
  c : Nat
  a : Option D
inductive Res (α : Type) where
  | ok (a : α) (env : EnvI) (st : Sto)
  | err (x : Exc) (env : EnvI) (st : Sto)
  | stuck
abbrev M (α : Type) := EnvI → Sto → Res α
def M.ret {α : Type} (a : α) : M α := fun env st => .ok a env st
def M.bind {α β : Type} (m : M α) (f : α → M β) : M β := fun env st =>
  match m env st with
  | .ok a env' st' => f a env' st'
  | .err x env' st' => .err x env' st'
  | .stuck => .stuck
def M.opt {α : Type} (o : Option α) : M α := fun env st => match o with | some a => .ok a env st | .none => .stuck
theorem M.assoc {α β γ : Type} (m : M α) (f : α → M β) (g : β → M γ) : M.bind (M.bind m f) g = M.bind m fun a => M.bind (f a) g := by
  funext env st
  unfold M.bind
  cases m env st <;> rfl
theorem M.ret_bind {α β : Type} (a : α) (f : α → M β) : M.bind (M.ret a) f = f a := rfl
theorem M.bind_ok {α β : Type} {m : M α} {f : α → M β} {env env' : EnvI} {st st' : Sto} {a : α} (h : m env st = .ok a env' st') : M.bind m f env st = f a env' st' := by
  unfold M.bind
  rw [h]
theorem M.bind_stuck {α β : Type} {m : M α} {f : α → M β} {env : EnvI} {st : Sto} (h : m env st = .stuck) : M.bind m f env st = .stuck := by
  unfold M.bind
  rw [h]
theorem M.bind_err {α β : Type} {m : M α} {f : α → M β} {env env' : EnvI} {st st' : Sto} {x : Exc} (h : m env st = .err x env' st') : M.bind m f env st = .err x env' st' := by
  unfold M.bind
  rw [h]
inductive CRes where
  | ok (d : D) (fr : Bool) (st : Sto)
  | err (x : Exc) (st : Sto)
  | stuck
/-- what a call of the function of that number does -/
abbrev CallF := Nat → List D → Sto → CRes
def M.call (C : CallF) (f : Nat) (ds : List D) : M (D × Bool) := fun env st =>
  match C f ds st with
  | .ok d fr st' => .ok (d, fr) env st'
  | .err x st' => .err x env st'
  | .stuck => .stuck
inductive Ty where | int | bool | str | tuple | list
  deriving DecidableEq
/-- operations by values -/
inductive P where
  | add | sub | mul | fdiv | mod | pow | shl | shr | band | bor | bxor | neg | inv
  | eq | ne | lt | le | gt | ge | isN | isNN | isB (b : Bool) | isNB (b : Bool) | inn | nin
  | idx | slc (lo hi : Bool) | len | abs | int | str | tuple | list | all | any | isi (t : Ty)
  | fld (f : Str) | rev | listR | tupR | sum | max | min | sorted | max2 | min2
  | inK (b : Bool) (kvs : List (Str × Int)) | getK (kvs : List (Str × Int))
  deriving DecidableEq
/-- what is walked -/
inductive IK where | rng1 | rng2 | seq | enm | zip
  deriving DecidableEq
/-- operands that are values -/
def IK.nb : IK → Option Nat
  | .seq => some 1
  | .enm => some 1
  | .zip => some 2
  | _ => none
inductive Tg where
  | name (i : Nat) | tup (is : List Nat)
inductive E where
  | var (i : Nat) | bor (i : Nat) | con (d : D) | tup (es : List E) | lst (es : List E) | box (es : List E)
  | prim (p : P) (os : List E) | not (a : E) | and (a b : E) | or (a b : E) | ite (c a b : E)
  | chain (p q : P) (a b c : E) | chain3 (p q r : P) (a b c d : E)
  | call (f : Nat) (es : List E)
  | meth (m : Str) (cs : List (Str × Nat)) (o es : List E)
  | make (c : Str) (al : List Str) (f : Nat) (es : List E)
  | lc (own : List Nat) (t : Tg) (k : IK) (os : List E) (ifs : List E) (e : E)
  | pop (i : Nat) | popAt (i : Nat) (k : E)
def E.notBor : E → Bool
  | .bor _ => false
  | _ => true
/-- what an except clause does: it names no exception -/
inductive HB where
  | ret (e : E) | asg (i : Nat) (e : E) | ct | pass
inductive S where
  | asg (t : Tg) (e : E) | par (is : List Nat) (es : List E) | parIx (i : Nat) (k : E) (j : Nat) (l a b : E) | setF (o : E) (f : Str) (e : E) | augF (o : E) (f : Str) (e : E) | aug (i : Nat) (e : E) | setIx (i : Nat) (k e : E) | app (i : Nat) (e : E) | ext (i : Nat) (e : E)
  | expr (e : E) | ret (e : E) | retN | ite (c : E) (a b : List S) | for (t : Tg) (k : IK) (os : List E) (body : List S) | while (c : E) (body : List S)
  | pass | brk | ct
  | raise (c : Nat) (es : List E)
  | tri (body : List S) (hs : List (Nat × Option Nat × HB))

/-! ### the operations -/
mutual
def toPy : D → Option PyData
  | .non => some .none
  | .bl b => some (.bool b)
  | .int i => some (.int i)
  | .str x => some (.str x)
  | .tup xs => (toPys xs).map .tuple
  | .lst xs => (toPys xs).map .list
  | .scr _ => none
  | .ref _ => none
  | .dct _ _ => none
def toPys : List D → Option (List PyData)
  | [] => some []
  | x :: xs => match toPy x, toPys xs with
    | some d, some ds => some (d :: ds)
    | _, _ => none
end
/-- bits that a product may have together -/
def mulOk (i j : Int) : Bool := decide (i.natAbs.log2 + j.natAbs.log2 < 134217000)
def divOk (j : Int) : Bool := decide (0 < j) && decide (j.natAbs.log2 < 9000)
def powOk (i j : Int) : Bool := decide (0 ≤ j) && decide (j ≤ 1000000) && decide (i.natAbs < 2 ^ 64)
def lineOk (n : Nat) : Bool := decide (n ≤ 16777216)
def gd {α : Type} (c : Bool) (a : α) : Option α := if c then some a else none
def eqD (x y : D) : Option Bool := match x, y with
  | .int i, .int j => some (i == j)
  | .str i, .str j => some (i == j)
  | .bl i, .bl j => some (i == j)
  | x, y => match toPy x, toPy y with
    | some d, some e => gd (SeqAt.shaped d && SeqAt.shaped e) (PyData.eqv d e)
    | _, _ => none
def atD (xs : List D) (i : Int) : Option D := L2.atI xs i
def cutD (xs : List D) (lo hi : Option Int) : List D := (xs.drop (HT.sIx xs.length 0 lo)).take (HT.sIx xs.length xs.length hi - HT.sIx xs.length 0 lo)
def tyD : D → Option String
  | .non => some "NoneType" | .bl _ => some "bool" | .int _ => some "int" | .str _ => some "str" | .tup _ => some "tuple" | .lst _ => some "list" | .scr _ => none | .ref _ => none | .dct _ _ => some "dict"
def isiD (d : D) (t : Ty) : Option Bool := match d, t with
  | .ref _, _ => none
  | .scr _, _ => none
  | .int _, .int => some true
  | .bl _, .int => some true
  | .bl _, .bool => some true
  | .str _, .str => some true
  | .tup _, .tuple => some true
  | .lst _, .list => some true
  | _, _ => some false
def blsD : List D → Option (List Bool)
  | [] => some []
  | .bl b :: r => (blsD r).map (b :: ·)
  | _ => none
def flatD : D → Bool
  | .non => true | .bl _ => true | .int _ => true | .str _ => true | _ => false
def eqF : D → D → Bool
  | .non, .non => true
  | .bl a, .bl b => a == b
  | .bl a, .int b => (if a then 1 else 0) == b
  | .int a, .bl b => a == (if b then 1 else 0)
  | .int a, .int b => a == b
  | .str a, .str b => a == b
  | _, _ => false
def inD (x y : D) : Option Bool := match y with
  | .lst ys => gd (flatD x && ys.all flatD) (ys.any fun y => eqF y x)
  | .tup ys => gd (flatD x && ys.all flatD) (ys.any fun y => eqF y x)
  | _ => none
def nonD : D → Bool
  | .non => true | _ => false
def isBD (b : Bool) : D → Bool
  | .bl c => b == c | _ => false
abbrev R := D × Bool
def pv (d : D) : R := (d, false)
/-! the answer of an operation on values, and whether it is a list just made -/
def add2 : D → D → Option R
  | .int i, .int j => some (pv (.int (i + j)))
  | .str i, .str j => gd (lineOk (i.length + j.length)) (pv (.str (i ++ j)))
  | .tup i, .tup j => gd (lineOk (i.length + j.length)) (pv (.tup (i ++ j)))
  | .lst i, .lst j => gd (lineOk (i.length + j.length)) (.lst (i ++ j), true)
  | _, _ => none
def mul2 : D → D → Option R
  | .int i, .int j => gd (mulOk i j) (pv (.int (i * j)))
  | .lst i, .int j => gd (decide (-1000000 ≤ j) && decide (j ≤ 1000000) && lineOk (i.length * j.toNat)) (.lst (List.replicate j.toNat i).flatten, true)
  | .tup i, .int j => gd (decide (-1000 ≤ j) && decide (j ≤ 1000) && decide (i.length ≤ 1000)) (pv (.tup (List.replicate j.toNat i).flatten))
  | _, _ => none
/-- on two ints -/
def int2 (f : Int → Int → Option R) : D → D → Option R
  | .int i, .int j => f i j
  | _, _ => none
def int1 (f : Int → Int) : D → Option R
  | .int i => some (pv (.int (f i)))
  | _ => none
/-- a boxed list -/
def lstB : Option Bx → Option (List D)
  | some (.lst xs) => some xs
  | _ => none
def insB : Option Bx → Option (Str × List Str × List (Str × D))
  | some (.ins c al fs) => some (c, al, fs)
  | _ => none
def fldD (st : Sto) (f : Str) : D → Option D
  | .ref k => (insB st[k]?).bind fun z => z.2.2.lookup f
  | _ => none
def intsD : List D → Option (List Int)
  | [] => some []
  | .int i :: r => (intsD r).map (i :: ·)
  | _ => none
/-- the greatest, the least -/
def maxL : List Int → Option Int
  | [] => none
  | [i] => some i
  | i :: r => (maxL r).map fun m => if i < m then m else i
def minL : List Int → Option Int
  | [] => none
  | [i] => some i
  | i :: r => (minL r).map fun m => if m < i then m else i
def insI (i : Int) : List Int → List Int
  | [] => [i]
  | j :: r => if i ≤ j then i :: j :: r else j :: insI i r
def sortI : List Int → List Int
  | [] => []
  | i :: r => insI i (sortI r)
def idx2 (st : Sto) : D → D → Option R
  | .lst xs, .int i => (atD xs i).map pv
  | .tup xs, .int i => (atD xs i).map pv
  | .ref k, .int i => (lstB st[k]?).bind fun xs => (atD xs i).map pv
  | _, _ => none
def slcD (lo hi : Option Int) : D → Option R
  | .lst xs => some (.lst (cutD xs lo hi), true)
  | .tup xs => some (pv (.tup (cutD xs lo hi)))
  | .scr xs => some (.lst (cutD (xs.map D.int) lo hi), true)
  | _ => none
def len1 (st : Sto) : D → Option R
  | .lst xs => some (pv (.int xs.length))
  | .tup xs => some (pv (.int xs.length))
  | .str x => gd (lineOk x.length) (pv (.int x.length))
  | .ref k => (lstB st[k]?).map fun xs => pv (.int xs.length)
  | _ => none
def tuple1 : D → Option R
  | .lst xs => some (pv (.tup xs))
  | .tup xs => some (pv (.tup xs))
  | _ => none
def str1 : D → Option R
  | .int i => gd (decide (i.natAbs.log2 < 1920)) (pv (.str (toString i)))
  | .str x => some (pv (.str x))
  | _ => none
def list1 : D → Option R
  | .lst xs => some (.lst xs, true)
  | .tup xs => some (.lst xs, true)
  | _ => none
def rev1 : D → Option R
  | .lst xs => some (.lst xs.reverse, true)
  | .tup xs => some (pv (.tup xs.reverse))
  | _ => none
def intOf : D → Option R
  | .int i => some (pv (.int i))
  | .bl b => some (pv (.int (if b then 1 else 0)))
  | _ => none
def rangeD (j : Int) : List D := (List.range j.toNat).map fun n : Nat => D.int (n : Int)
def listR1 : D → Option R
  | .int j => gd (decide (-1000000 ≤ j) && decide (j ≤ 1000000)) (.lst (rangeD j), true)
  | _ => none
def tupR1 : D → Option R
  | .int j => gd (decide (-1000000 ≤ j) && decide (j ≤ 1000000)) (pv (.tup (rangeD j)))
  | _ => none
/-- of a written dict -/
def inK1 (b : Bool) (kvs : List (Str × Int)) : D → Option R
  | .str x => some (pv (.bl (b != (kvs.lookup x).isSome)))
  | _ => none
def getK1 (kvs : List (Str × Int)) : D → Option R
  | .str x => (kvs.lookup x).map fun i => pv (.int i)
  | _ => none
def ints1 (f : List Int → Option Int) : D → Option R
  | .lst xs => (intsD xs).bind fun is => (f is).map fun i => pv (.int i)
  | _ => none
def sorted1 : D → Option R
  | .lst xs => (intsD xs).bind fun is => gd (decide (is.length < 16777216)) (.lst ((sortI is).map D.int), true)
  | _ => none
def bools1 (f : List Bool → Bool) : D → Option R
  | .lst xs => (blsD xs).map fun bs => pv (.bl (f bs))
  | _ => none
def asI : D → Option Int
  | .int i => some i
  | _ => none
def pf1 (st : Sto) (p : P) (x : D) : Option R := match p with
  | .neg => int1 (fun i => -i) x
  | .inv => int1 Builtin.bitNot x
  | .isN => some (pv (.bl (nonD x)))
  | .isNN => some (pv (.bl (!nonD x)))
  | .isB b => some (pv (.bl (isBD b x)))
  | .isNB b => some (pv (.bl (!isBD b x)))
  | .slc _ _ => slcD none none x
  | .len => len1 st x
  | .abs => int1 (fun i => if i < 0 then -i else i) x
  | .int => intOf x
  | .str => str1 x
  | .tuple => tuple1 x
  | .list => list1 x
  | .all => bools1 (fun bs => bs.all id) x
  | .any => bools1 (fun bs => bs.any id) x
  | .isi t => (isiD x t).map fun b => pv (.bl b)
  | .fld f => (fldD st f x).map pv
  | .rev => rev1 x
  | .listR => listR1 x
  | .tupR => tupR1 x
  | .inK b kvs => inK1 b kvs x
  | .getK kvs => getK1 kvs x
  | .sum => ints1 (fun is => some is.sum) x
  | .max => ints1 maxL x
  | .min => ints1 minL x
  | .sorted => sorted1 x
  | _ => none
def pf2 (st : Sto) (p : P) (x y : D) : Option R := match p with
  | .add => add2 x y
  | .sub => int2 (fun i j => some (pv (.int (i - j)))) x y
  | .mul => mul2 x y
  | .fdiv => int2 (fun i j => gd (divOk j) (pv (.int (i / j)))) x y
  | .mod => int2 (fun i j => gd (decide (0 < j)) (pv (.int (i % j)))) x y
  | .pow => int2 (fun i j => gd (powOk i j) (pv (.int (i ^ j.toNat)))) x y
  | .shl => int2 (fun i j => gd (powOk i j) (pv (.int (i * 2 ^ j.toNat)))) x y
  | .shr => int2 (fun i j => gd (decide (0 ≤ j)) (pv (.int (i / 2 ^ j.toNat)))) x y
  | .band => int2 (fun i j => some (pv (.int (Builtin.bitAnd i j)))) x y
  | .bor => int2 (fun i j => some (pv (.int (Builtin.bitOr i j)))) x y
  | .bxor => int2 (fun i j => some (pv (.int (Builtin.bitXor i j)))) x y
  | .eq => (eqD x y).map fun b => pv (.bl b)
  | .ne => (eqD x y).map fun b => pv (.bl (!b))
  | .lt => int2 (fun i j => some (pv (.bl (decide (i < j))))) x y
  | .le => int2 (fun i j => some (pv (.bl (decide (i ≤ j))))) x y
  | .gt => int2 (fun i j => some (pv (.bl (decide (j < i))))) x y
  | .ge => int2 (fun i j => some (pv (.bl (decide (j ≤ i))))) x y
  | .inn => (inD x y).map fun b => pv (.bl b)
  | .nin => (inD x y).map fun b => pv (.bl (!b))
  | .idx => idx2 st x y
  | .max2 => int2 (fun i j => some (pv (.int (if j > i then j else i)))) x y
  | .min2 => int2 (fun i j => some (pv (.int (if j < i then j else i)))) x y
  | .slc true false => (asI y).bind fun i => slcD (some i) none x
  | .slc false true => (asI y).bind fun i => slcD none (some i) x
  | _ => none
def pf3 (p : P) (x y z : D) : Option R := match p with
  | .slc true true => (asI y).bind fun i => (asI z).bind fun j => slcD (some i) (some j) x
  | _ => none
def pfS (st : Sto) (p : P) (ds : List D) : Option R := match ds with
  | [x] => pf1 st p x
  | [x, y] => pf2 st p x y
  | [x, y, z] => pf3 p x y z
  | _ => none

/-! ### names -/
def rdVar (i : Nat) : M D := fun env st => match env[i]? with
  | some (.val d) => .ok d env st
  | some (.own ds) => .ok (.lst ds) (env.set i (.val (.lst ds))) st
  | _ => .stuck
def rdBor (i : Nat) : M D := fun env st => match env[i]? with
  | some (.val d) => .ok d env st
  | some (.own ds) => .ok (.lst ds) env st
  | _ => .stuck
/-- the store of a name -/
def slotOf (r : R) : Slot := match r with
  | (.lst ds, true) => .own ds
  | (d, _) => .val d
def setSlots : List Nat → List D → EnvI → Option EnvI
  | [], [], env => some env
  | i :: is, d :: ds, env => if i < env.length then setSlots is ds (env.set i (.val d)) else none
  | _, _, _ => none
def setSlotsR : List Nat → List R → EnvI → Option EnvI
  | [], [], env => some env
  | i :: is, r :: rs, env => if i < env.length then setSlotsR is rs (env.set i (slotOf r)) else none
  | _, _, _ => none
/-- the items of a tuple, of a list -/
def seqD : D → Option (List D)
  | .tup ds => some ds
  | .lst ds => some ds
  | _ => none
def setTg (t : Tg) (r : R) : M Unit := fun env st => match t with
  | .name i => if i < env.length then .ok () (env.set i (slotOf r)) st else .stuck
  | .tup is => match seqD r.1 with
    | some ds => match setSlots is ds env with | some env' => .ok () env' st | none => .stuck
    | _ => .stuck
def wipeI (env : EnvI) : List Nat → EnvI
  | [] => env
  | i :: r => wipeI (env.set i .none) r
/-- the slots of a comprehension's own names as they were -/
def backI (env env' : EnvI) : List Nat → EnvI
  | [] => env'
  | i :: r => backI env (env'.set i (env.getD i .none)) r
def noOwn (env : EnvI) (is : List Nat) : Bool := is.all fun i => match env[i]? with | some (.own _) => false | some _ => true | _ => false
def enumD (xs : List D) : List D := xs.zipIdx.map fun p => D.tup [.int (p.2 : Nat), p.1]
def zipD (xs ys : List D) : List D := (xs.zip ys).map fun p => D.tup [p.1, p.2]
def itemsD : IK → List D → Option (List D)
  | .rng1, [.int j] => gd (decide (-(2 ^ 62) ≤ j) && decide (j < 2 ^ 62)) ((List.range j.toNat).map fun n : Nat => D.int (n : Int))
  | .rng2, [.int i, .int j] => gd (decide (-(2 ^ 62) ≤ i) && decide (i < 2 ^ 62) && decide (-(2 ^ 62) ≤ j) && decide (j < 2 ^ 62)) ((List.range (j - i).toNat).map fun n : Nat => D.int (i + (n : Int)))
  | .seq, [.lst xs] => some xs
  | .seq, [.tup xs] => some xs
  | .enm, [.lst xs] => some (enumD xs)
  | .enm, [.tup xs] => some (enumD xs)
  | .zip, [.lst xs, .lst ys] => some (zipD xs ys)
  | .zip, [.tup xs, .tup ys] => some (zipD xs ys)
  | _, _ => none
def asB (d : D) : Option Bool := match d with | .bl b => some b | _ => none

/-! ### expressions -/
/-- the method that a call means: the box, the function -/
def methD (st : Sto) (m : Str) (cs : List (Str × Nat)) : List D → Option (Nat × Nat)
  | [.ref k] => (insB st[k]?).bind fun z => if (z.2.2.lookup m).isNone then (cs.lookup z.1).map fun f => (k, f) else none
  | _ => none
/-- the turns of a comprehension: a step gives an item, or none -/
def lcGo (step : D → M (Option D)) : List D → List D → M (List D)
  | [], acc => M.ret acc
  | x :: xs, acc => M.bind (step x) fun o => match o with
    | some y => if acc.length < 16777216 then lcGo step xs (acc ++ [y]) else fun _ _ => .stuck
    | none => lcGo step xs acc
/-- within a comprehension's block nothing is raised -/
def inBlk {α : Type} (own : List Nat) (m : M α) : M α := fun env st =>
  if noOwn env own then
    match m env st with
    | .ok a env' st' => .ok a (backI env env' own) st'
    | _ => .stuck
  else .stuck
mutual
def evalE (C : CallF) : E → M R
  | .var i => M.bind (rdVar i) fun d => M.ret (pv d)
  | .bor i => fun _ _ => .stuck
  | .con d => M.ret (pv d)
  | .tup es => M.bind (evalOs C es) fun ds => M.opt (gd (lineOk ds.length) (pv (.tup ds)))
  | .lst es => M.bind (evalOs C es) fun ds => M.opt (gd (lineOk ds.length) (.lst ds, true))
  | .box es => M.bind (evalOs C es) fun ds => fun env st => if lineOk ds.length then .ok (pv (.ref st.length)) env (st ++ [.lst ds]) else .stuck
  | .prim p os => M.bind (evalOs C os) fun ds env st => M.opt (pfS st p ds) env st
  | .not a => M.bind (evalE C a) fun r => M.opt ((asB r.1).map fun b => pv (.bl (!b)))
  | .and a b => M.bind (evalE C a) fun r => match asB r.1 with
    | some true => evalE C b
    | some false => M.ret (pv (.bl false))
    | none => fun _ _ => .stuck
  | .or a b => M.bind (evalE C a) fun r => match asB r.1 with
    | some false => evalE C b
    | some true => M.ret (pv (.bl true))
    | none => fun _ _ => .stuck
  | .ite c a b => M.bind (evalE C c) fun r => match asB r.1 with
    | some true => evalE C a
    | some false => evalE C b
    | none => fun _ _ => .stuck
  | .chain p q a b c => M.bind (evalE C a) fun x => M.bind (evalE C b) fun y => M.bind (fun env st => M.opt (pfS st p [x.1, y.1]) env st) fun z => match asB z.1 with
    | some true => M.bind (evalE C c) fun w env st => M.opt (pfS st q [y.1, w.1]) env st
    | some false => M.ret (pv (.bl false))
    | none => fun _ _ => .stuck
  | .chain3 p q r a b c d => M.bind (evalE C a) fun x => M.bind (evalE C b) fun y => M.bind (fun env st => M.opt (pfS st p [x.1, y.1]) env st) fun z => match asB z.1 with
    | some true => M.bind (evalE C c) fun w => M.bind (fun env st => M.opt (pfS st q [y.1, w.1]) env st) fun z2 => match asB z2.1 with
      | some true => M.bind (evalE C d) fun v env st => M.opt (pfS st r [w.1, v.1]) env st
      | some false => M.ret (pv (.bl false))
      | none => fun _ _ => .stuck
    | some false => M.ret (pv (.bl false))
    | none => fun _ _ => .stuck
  | .call f es => M.bind (evalOs C es) fun ds => M.call C f ds
  | .meth m cs o es => M.bind (evalOs C o) fun os => M.bind (fun env st => M.opt (methD st m cs os) env st) fun kf => M.bind (evalOs C es) fun ds => M.call C kf.2 (.ref kf.1 :: ds)
  | .make c al f es => M.bind (evalOs C es) fun ds env st => match C f (.ref st.length :: ds) (st ++ [.ins c al []]) with
    | .ok .non _ st' => .ok (pv (.ref st.length)) env st'
    | _ => .stuck
  | .lc own t k os ifs e => M.bind (evalOs C os) fun ds => M.bind (M.opt (itemsD k ds)) fun xs =>
      M.bind (inBlk own (lcGo (fun x env st => (M.bind (setTg t (pv x)) fun _ => M.bind (evalIfs C ifs) fun b => if b then M.bind (evalE C e) fun r => M.ret (some r.1) else M.ret none) (wipeI env own) st) xs [])) fun ys => M.ret (.lst ys, true)
  | .pop i => fun env st => match env[i]? with
    | some (.own ds) => match ds.getLast? with | some d => .ok (pv d) (env.set i (.own ds.dropLast)) st | none => .stuck
    | _ => .stuck
  | .popAt i k => fun env st => match env[i]? with
    | some (.own _) => M.bind (evalE C k) (fun r env st => match env[i]?, r.1 with
      | some (.own ds), .int j => match (gd (lineOk ds.length) ()).bind fun _ => L2.ixN ds.length j with
        | some n => match ds[n]? with | some d => .ok (pv d) (env.set i (.own (ds.eraseIdx n))) st | none => .stuck
        | none => .stuck
      | _, _ => .stuck) env st
    | _ => .stuck
/-- operands: a borrowed name is read behind the others -/
def evalOs (C : CallF) : List E → M (List D)
  | [] => M.ret []
  | .bor i :: es => M.bind (rdBor i) fun _ => M.bind (evalOs C es) fun ds => M.bind (rdBor i) fun d => M.ret (d :: ds)
  | e :: es => M.bind (evalE C e) fun r => M.bind (evalOs C es) fun ds => M.ret (r.1 :: ds)
def evalIfs (C : CallF) : List E → M Bool
  | [] => M.ret true
  | e :: es => M.bind (evalE C e) fun r => match asB r.1 with
    | some true => evalIfs C es
    | some false => M.ret false
    | none => fun _ _ => .stuck
end

/-! ### statements -/
/-- += -/
def aug2 : D → D → Option D
  | .int i, .int j => some (.int (i + j))
  | .str i, .str j => gd (lineOk (i.length + j.length)) (.str (i ++ j))
  | _, _ => none
inductive Fl where
  | nx | ret (d : D) (fr : Bool) | brk | ct
def forGo (step : D → M Fl) : List D → M Fl
  | [] => M.ret .nx
  | x :: xs => M.bind (step x) fun f => match f with
    | .nx => forGo step xs
    | .ct => forGo step xs
    | .brk => M.ret .nx
    | .ret d fr => M.ret (.ret d fr)
def whileGo (c : M Bool) (body : M Fl) : Nat → M Fl
  | 0 => fun _ _ => .stuck
  | n + 1 => M.bind c fun b => if b then M.bind body fun f => (match f with
    | .nx => whileGo c body n
    | .ct => whileGo c body n
    | .brk => M.ret .nx
    | .ret d fr => M.ret (.ret d fr)) else M.ret .nx
def putF (f : Str) (d : D) : List (Str × D) → List (Str × D)
  | [] => [(f, d)]
  | p :: r => if p.1 = f then (f, d) :: r else p :: putF f d r
/-- an attribute is stored -/
def setFD (st : Sto) (f : Str) (d : D) : D → Option Sto
  | .ref k => (insB st[k]?).bind fun z => if z.2.1.contains f && decide (z.2.2.length < 900) then some (st.set k (.ins z.1 z.2.1 (putF f d z.2.2))) else none
  | _ => none
def setFM (f : Str) (v : D) (os : List D) : M Fl := fun env st => match os with
  | [d] => (match setFD st f v d with | some st' => .ok .nx env st' | none => .stuck)
  | _ => .stuck
/-- the class of an instance -/
def clsD (st : Sto) : D → Option Str
  | .ref k => (insB st[k]?).map fun z => z.1
  | _ => none
def setFC (f : Str) (v : D) (c : Str) (os : List D) : M Fl := fun env st => match os with
  | [d] => if clsD st d = some c then (match setFD st f v d with | some st' => .ok .nx env st' | none => .stuck) else .stuck
  | _ => .stuck
def fldM (f : Str) (os : List D) : M (D × Str) := fun env st => match os with
  | [d] => (match fldD st f d, clsD st d with | some x, some c => .ok (x, c) env st | _, _ => .stuck)
  | _ => .stuck
def setIxM (i : Nat) (v : D) (j : D) : M Fl := fun env st => match env[i]?, j with
  | some (.own ds), .int j => (match L2.ixN ds.length j with | some n => .ok .nx (env.set i (.own (ds.set n v))) st | none => .stuck)
  | some (.val (.ref b)), .int j => (match lstB st[b]? with
    | some ds => (match L2.ixN ds.length j with | some n => .ok .nx env (st.set b (.lst (ds.set n v))) | none => .stuck)
    | none => .stuck)
  | _, _ => .stuck
/-- expressions, with what they hand on -/
def evalRs (C : CallF) : List E → M (List R)
  | [] => M.ret []
  | e :: es => M.bind (evalE C e) fun r => M.bind (evalRs C es) fun rs => M.ret (r :: rs)
/-- return of a name that owns: it is handed on -/
def retOf (C : CallF) : E → M Fl
  | .var i => fun env st => match env[i]? with
    | some (.val d) => .ok (.ret d false) env st
    | some (.own ds) => .ok (.ret (.lst ds) true) env st
    | _ => .stuck
  | e => M.bind (evalE C e) fun r => M.ret (.ret r.1 r.2)
def hbM (C : CallF) : HB → M Fl
  | .ret e => M.bind (evalE C e) fun r => M.ret (.ret r.1 r.2)
  | .asg i e => M.bind (evalE C e) fun r => M.bind (setTg (.name i) r) fun _ => M.ret .nx
  | .ct => M.ret .ct
  | .pass => M.ret .nx
/-- the clause's name is bound within it alone -/
def runN {α : Type} (n : Option Nat) (m : M α) : M α := fun env st => match n with
  | none => m env st
  | some i => match m (env.set i .none) st with
    | .ok f e s => .ok f (e.set i .none) s
    | _ => .stuck
def hdGo (C : CallF) (sub : Nat → Nat → Option Bool) (x : Exc) : List (Nat × Option Nat × HB) → M Fl
  | [] => fun env st => .err x env st
  | (c, n, b) :: r => match sub x.c c with
    | some true => runN n (hbM C b)
    | some false => hdGo C sub x r
    | none => fun _ _ => .stuck
mutual
def evalS (C : CallF) (sub : Nat → Nat → Option Bool) (N : Nat) : S → M Fl
  | .asg t e => M.bind (evalE C e) fun r => M.bind (setTg t r) fun _ => M.ret .nx
  | .par is es => M.bind (evalRs C es) fun rs => fun env st => match setSlotsR is rs env with | some env' => .ok .nx env' st | none => .stuck
  | .parIx i k j l a b => M.bind (evalE C a) fun u => M.bind (evalE C b) fun v => M.bind (rdBor i) fun _ => M.bind (evalE C k) fun x => M.bind (setIxM i u.1 x.1) fun _ => M.bind (rdBor j) fun _ => M.bind (evalE C l) fun y => setIxM j v.1 y.1
  | .setF o f e => M.bind (evalE C e) fun v => M.bind (evalOs C [o]) fun os => setFM f v.1 os
  | .augF o f e => M.bind (evalOs C [o]) fun os => M.bind (fldM f os) fun x => M.bind (evalE C e) fun v => M.bind (M.opt (aug2 x.1 v.1)) fun z => setFC f z x.2 os
  | .aug i e => M.bind (rdBor i) fun x => M.bind (evalE C e) fun r => M.bind (M.opt (aug2 x r.1)) fun z => M.bind (setTg (.name i) (pv z)) fun _ => M.ret .nx
  | .setIx i k e => M.bind (evalE C e) fun v => M.bind (rdBor i) fun _ => M.bind (evalE C k) fun j => setIxM i v.1 j.1
  | .app i e => fun env st => match env[i]? with
    | some (.own _) => M.bind (evalE C e) (fun r env st => match env[i]? with
      | some (.own ds) => if ds.length < 16777216 then .ok .nx (env.set i (.own (ds ++ [r.1]))) st else .stuck
      | _ => .stuck) env st
    | _ => .stuck
  | .ext i e => fun env st => match env[i]? with
    | some (.own _) => M.bind (evalE C e) (fun r env st => match env[i]?, r.1 with
      | some (.own ds), .lst xs => if lineOk (ds.length + xs.length) then .ok .nx (env.set i (.own (ds ++ xs))) st else .stuck
      | _, _ => .stuck) env st
    | _ => .stuck
  | .expr e => M.bind (evalE C e) fun _ => M.ret .nx
  | .ret e => retOf C e
  | .retN => M.ret (.ret .non false)
  | .ite c a b => M.bind (evalE C c) fun r => match asB r.1 with
    | some true => evalSs C sub N a
    | some false => evalSs C sub N b
    | none => fun _ _ => .stuck
  | .for t k os body => M.bind (evalOs C os) fun ds => M.bind (M.opt (itemsD k ds)) fun xs => forGo (fun x => M.bind (setTg t (pv x)) fun _ => evalSs C sub N body) xs
  | .while c body => whileGo (M.bind (evalE C c) fun r => M.opt (asB r.1)) (evalSs C sub N body) N
  | .pass => M.ret .nx
  | .brk => M.ret .brk
  | .ct => M.ret .ct
  | .raise c es => M.bind (evalOs C es) fun ds => fun env st => match ds with
    | [] => .err ⟨c, none⟩ env st
    | [d] => .err ⟨c, some d⟩ env st
    | _ => .stuck
  | .tri body hs => fun env st => match evalSs C sub N body env st with
    | .err x env' st' => hdGo C sub x hs env' st'
    | r => r
def evalSs (C : CallF) (sub : Nat → Nat → Option Bool) (N : Nat) : List S → M Fl
  | [] => M.ret .nx
  | s :: ss => M.bind (evalS C sub N s) fun f => match f with
    | .nx => evalSs C sub N ss
    | .brk => M.ret .brk
    | .ct => M.ret .ct
    | .ret d fr => M.ret (.ret d fr)
end

/-! ### functions -/
structure FDef where
  np : Nat
  nv : Nat
  body : List S
  ini : Bool
structure Tab where
  fns : List (Nat × FDef)
  sub : Nat → Nat → Option Bool
def startI (f : FDef) (ds : List D) : EnvI := ds.map .val ++ List.replicate (f.nv - f.np) .none
def runF (C : CallF) (T : Tab) (N : Nat) (f : FDef) (ds : List D) (st : Sto) : CRes :=
  if ds.length = f.np then
    match evalSs C T.sub N f.body (startI f ds) st with
    | .ok .nx _ st' => .ok .non false st'
    | .ok (.ret d fr) _ st' => .ok d fr st'
    | .err x _ st' => .err x st'
    | _ => .stuck
  else .stuck
/-- an __init__ stands one level lower -/
def callN (T : Tab) (N : Nat) : Nat → CallF
  | 0 => fun _ _ _ => .stuck
  | 1 => fun f ds st => match T.fns.lookup f with
    | some d => if d.ini then .stuck else runF (callN T N 0) T N d ds st
    | none => .stuck
  | k + 2 => fun f ds st => match T.fns.lookup f with
    | some d => if d.ini then runF (callN T N k) T N d ds st else runF (callN T N (k + 1)) T N d ds st
    | none => .stuck
end IP

set_option Elab.async false
set_option linter.all false
set_option maxRecDepth 100000
namespace IP
open PySem L2

/-! ### from the text to the small language -/
/-- what the module's names stand for -/
structure G where
  fns : List (Str × Nat)
  cons : List (Str × D)
  exs : List (Str × Nat)
  blt : List Str
  /-- own classes: the __init__, the attributes -/
  cls : List (Str × Nat × List Str)
  /-- methods: the classes that have it, the functions -/
  mth : List (Str × List (Str × Nat))
  /-- written dicts: texts to numbers -/
  dcs : List (Str × List (Str × Int))
/-- where one stands: the slots' names, the scope's names, which cells may be written -/
structure Cn where
  N : List Str
  nm : List (Str × NameKind)
  wr : Str → Bool
def slotIx : List Str → Str → Option Nat
  | [], _ => none
  | y :: r, x => if y = x then some 0 else (slotIx r x).map (· + 1)
def plainName (x : Str) : Bool := !(x == ("__debug__" : Str)) && !(x == ("__classdict__" : Str)) && !(x == ("__name__" : Str))
def visN (cn : Cn) (x : Str) : Bool := match cn.nm.lookup x with | some .local => true | some .cell => true | some .free => true | _ => false
def glN (cn : Cn) (x : Str) : Bool := match cn.nm.lookup x with | some .globalImplicit => true | _ => false
def rdIx (cn : Cn) (x : Str) : Option Nat := (gd (visN cn x && plainName x) ()).bind fun _ => slotIx cn.N x
def locN (cn : Cn) (x : Str) : Bool := match cn.nm.lookup x with | some .local => true | some .cell => cn.wr x | _ => false
def wrIx (cn : Cn) (x : Str) : Option Nat := (gd (locN cn x) ()).bind fun _ => slotIx cn.N x
def mapO {α β : Type} (f : α → Option β) : List α → Option (List β)
  | [] => some []
  | x :: xs => (f x).bind fun y => (mapO f xs).bind fun ys => some (y :: ys)
def opP : Operator → Option P
  | .Add => some .add | .Sub => some .sub | .Mult => some .mul | .FloorDiv => some .fdiv | .Mod => some .mod | .Pow => some .pow
  | .LShift => some .shl | .RShift => some .shr | .BitAnd => some .band | .BitOr => some .bor | .BitXor => some .bxor | _ => none
def cmpP : CmpOp → Option P
  | .Eq => some .eq | .NotEq => some .ne | .Lt => some .lt | .LtE => some .le | .Gt => some .gt | .GtE => some .ge | .In => some .inn | .NotIn => some .nin | _ => none
def isP : CmpOp → Expr → Option P
  | .Is, .Constant .none _ _ => some .isN
  | .IsNot, .Constant .none _ _ => some .isNN
  | .Is, .Constant (.bool b) _ _ => some (.isB b)
  | .IsNot, .Constant (.bool b) _ _ => some (.isNB b)
  | _, _ => none
def conD : Const → Option D
  | .none => some .non | .bool b => some (.bl b) | .int i => some (.int i) | .str x => some (.str x) | _ => none
def tyN (x : Str) : Option Ty := if x = "int" then some .int else if x = "bool" then some .bool else if x = "str" then some .str else if x = "tuple" then some .tuple else if x = "list" then some .list else none
/-- a call of a built-in with one argument -/
def bltP (x : Str) : Option P := if x = "len" then some .len else if x = "abs" then some .abs else if x = "all" then some .all else if x = "any" then some .any else if x = "int" then some .int else if x = "tuple" then some .tuple else if x = "list" then some .list else if x = "str" then some .str else if x = "sum" then some .sum else if x = "max" then some .max else if x = "min" then some .min else if x = "sorted" then some .sorted else none
/-- .. with two -/
def bltP2 (x : Str) : Option P := if x = "max" then some .max2 else if x = "min" then some .min2 else none
def ownOf (N : List Str) : List (Str × NameKind) → Option (List (Str × Nat))
  | [] => some []
  | (x, k) :: r => match k with
    | .local => (ownOf N r).map fun l => match slotIx N x with | some i => (x, i) :: l | none => l
    | .cell => (ownOf N r).map fun l => match slotIx N x with | some i => (x, i) :: l | none => l
    | _ => ownOf N r
/-- the names within a comprehension's block -/
def blkN (nm : List (Str × NameKind)) (names : List (Str × NameKind)) : List (Str × NameKind) := names.map fun (n, k) => if (k == .free && nm.lookup n == some .cell) then (n, .cell) else (n, k)
def blkCn (cn : Cn) (scope : Scope) : Cn := ⟨cn.N, blkN cn.nm scope.names, fun x => scope.names.lookup x == some .cell⟩
/-- blkC, by the names alone -/
def blkB (cn : Cn) (scope : Scope) (own : List (Str × Nat)) : Bool :=
  (match scope.kind with | .function => true | _ => false) && (scope.names.all fun y => decide (scope.names.lookup y.1 = some y.2)) && (own.all fun p => decide (cn.N[p.2]? = some p.1)) &&
    (scope.names.all fun y => match y.2 with
      | .free => (match cn.nm.lookup y.1 with | some .cell => true | some .free => true | _ => false)
      | .local => decide (y.1 ∈ own.map (·.1)) || decide (y.1 ∉ cn.N)
      | .cell => decide (y.1 ∈ own.map (·.1)) || decide (y.1 ∉ cn.N)
      | _ => true)
def nameIx (cn : Cn) : Expr → Option Nat
  | .Name x _ => wrIx cn x
  | _ => none
def tgC (cn : Cn) : Expr → Option Tg
  | .Name x _ => (wrIx cn x).map .name
  | .Tuple es _ _ => (mapO (nameIx cn) es).map .tup
  | _ => none
/-- a call of a builtin by name: its operation -/
def callB (g : G) (cn : Cn) (x : Str) (as : List Expr) : Option P := (gd (glN cn x && g.blt.contains x && plainName x) ()).bind fun _ => match as with
  | [_] => bltP x
  | [_, _] => bltP2 x
  | _ => none
/-- list(range(e)) -/
def rgL (g : G) (cn : Cn) (x : Str) (as : List Expr) : Option Expr := match as with
  | [.Call (.Name y _) [e] [] _] => (gd (x = "list" && glN cn x && g.blt.contains x && y = "range" && glN cn y && g.blt.contains y) ()).map fun _ => e
  | _ => none
/-- tuple(range(e)) -/
def rgT (g : G) (cn : Cn) (x : Str) (as : List Expr) : Option Expr := match as with
  | [.Call (.Name y _) [e] [] _] => (gd (x = "tuple" && glN cn x && g.blt.contains x && y = "range" && glN cn y && g.blt.contains y) ()).map fun _ => e
  | _ => none
/-- a written dict -/
def dcE (g : G) (cn : Cn) : Expr → Option (List (Str × Int))
  | .Name x _ => (gd (glN cn x && plainName x) ()).bind fun _ => g.dcs.lookup x
  | _ => none
def inP : CmpOp → Option Bool
  | .In => some false | .NotIn => some true | _ => none
/-- the making of an instance -/
def clsF (g : G) (cn : Cn) (x : Str) : Option (Nat × List Str) := (gd (glN cn x && plainName x) ()).bind fun _ => g.cls.lookup x
def isiT (g : G) (cn : Cn) (x : Str) (as : List Expr) : Option (Expr × Ty) := match as with
  | [a, .Name t _] => (gd (x = "isinstance" && glN cn x && g.blt.contains x && glN cn t && g.blt.contains t && plainName t) ()).bind fun _ => (tyN t).map fun T => (a, T)
  | _ => none
def callF (g : G) (cn : Cn) (x : Str) : Option Nat := (gd (glN cn x && plainName x) ()).bind fun _ => g.fns.lookup x
/-- an expression by its value -/
def valC (f : Expr → Option E) (e : Expr) : Option E := (f e).bind fun r => gd r.notBor r
/-- an operand: a name is borrowed -/
def opdC (cn : Cn) (f : Expr → Option E) (e : Expr) : Option E := match e with
  | .Name x _ => match rdIx cn x with | some i => some (.bor i) | none => valC f e
  | e => valC f e
def optO (cn : Cn) (f : Expr → Option E) : Option Expr → Option (List E)
  | none => some []
  | some e => (opdC cn f e).map fun a => [a]
/-- what is walked -/
def isTup : Expr → Bool
  | .Tuple .. => true
  | _ => false
def bltN (g : G) (cn : Cn) (x y : Str) : Bool := x = y && glN cn x && g.blt.contains x
def itC (g : G) (cn : Cn) (f : Expr → Option E) (tg e : Expr) : Option (IK × List E) := match e with
  | .Call (.Name x _) [a] [] _ => if bltN g cn x "range" then (opdC cn f a).map fun i => (.rng1, [i]) else if bltN g cn x "enumerate" && isTup tg then (valC f a).map fun i => (.enm, [i]) else (valC f e).map fun i => (.seq, [i])
  | .Call (.Name x _) [a, b] [] _ => if bltN g cn x "range" then (opdC cn f a).bind fun i => (opdC cn f b).map fun j => (.rng2, [i, j]) else if bltN g cn x "zip" && isTup tg then (valC f a).bind fun i => (valC f b).map fun j => (.zip, [i, j]) else (valC f e).map fun i => (.seq, [i])
  | e => (valC f e).map fun i => (.seq, [i])
def tgIn (t : Tg) (own : List Nat) : Bool := match t with
  | .name i => own.contains i
  | .tup is => is.all own.contains
/-- x.pop(..) of a name -/
def popC (cn : Cn) (x : Str) (apos cpos : Pos) : Option Nat := (gd (apos.endLine == cpos.line) ()).bind fun _ => rdIx cn x
def popE (cn : Cn) (f : Expr → Option E) (o : Expr) (m : Str) (apos : Pos) (as : List Expr) (cpos : Pos) : Option E := match o, as with
  | .Name x _, [] => if m = "pop" then (popC cn x apos cpos).map .pop else none
  | .Name x _, [k] => if m = "pop" then (popC cn x apos cpos).bind fun i => (f k).map fun j => .popAt i j else none
  | _, _ => none
def notSlc : Expr → Bool
  | .Slice .. => false | _ => true
/-- xs[::-1] -/
def revE : Expr → Bool
  | .Slice none none (some (.UnaryOp .USub (.Constant (.int 1) _ _) _)) _ => true
  | _ => false
def subC (cn : Cn) (f : Expr → Option E) (a b : Expr) : Option E := if revE b then (opdC cn f a).map fun i => .prim .rev [i] else match b with
  | .Slice lo hi none _ => (gd (!(lo.isSome && hi.isSome)) ()).bind fun _ => (opdC cn f a).bind fun i => (optO cn f lo).bind fun l => (optO cn f hi).bind fun h => some (.prim (.slc lo.isSome hi.isSome) (i :: (l ++ h)))
  | b => (opdC cn f a).bind fun i => (opdC cn f b).bind fun j => some (.prim .idx [i, j])
/-- what a method may be called of -/
def recvC : Expr → Bool
  | .Name _ _ => true
  | .Call (.Name _ _) (_ :: _) _ _ => true
  | _ => false
def compE (g : G) : Nat → Cn → Expr → Option E
  | 0, _, _ => none
  | n + 1, cn, e => match e with
    | .Name x _ => match rdIx cn x with
      | some i => some (.var i)
      | none => (gd (glN cn x && plainName x) ()).bind fun _ => (g.cons.lookup x).map .con
    | .Constant c _ _ => (conD c).map .con
    | .Tuple es _ _ => (mapO (valC (compE g n cn)) es).map .tup
    | .List es _ => (mapO (valC (compE g n cn)) es).map .lst
    | .BinOp a op b _ => (opP op).bind fun p => (opdC cn (compE g n cn) a).bind fun i => (opdC cn (compE g n cn) b).bind fun j => some (.prim p [i, j])
    | .UnaryOp .USub a _ => (opdC cn (compE g n cn) a).map fun i => .prim .neg [i]
    | .UnaryOp .Invert a _ => (opdC cn (compE g n cn) a).map fun i => .prim .inv [i]
    | .UnaryOp .Not a _ => (compE g n cn a).map .not
    | .BoolOp _ [a] _ => compE g n cn a
    | .BoolOp .And (a :: b :: r) pos => (compE g n cn a).bind fun i => (compE g n cn (.BoolOp .And (b :: r) pos)).bind fun j => some (.and i j)
    | .BoolOp .Or (a :: b :: r) pos => (compE g n cn a).bind fun i => (compE g n cn (.BoolOp .Or (b :: r) pos)).bind fun j => some (.or i j)
    | .IfExp c a b _ => (compE g n cn c).bind fun k => (compE g n cn a).bind fun i => (compE g n cn b).bind fun j => some (.ite k i j)
    | .Compare a [op] [b] _ => match dcE g cn b with
      | some kvs => (inP op).bind fun nb => (gd (!behindInMarks op b) ()).bind fun _ => (opdC cn (compE g n cn) a).map fun i => .prim (.inK nb kvs) [i]
      | none => match isP op b with
      | some p => (opdC cn (compE g n cn) a).map fun i => .prim p [i]
      | none => (cmpP op).bind fun p => (gd (!behindInMarks op b) ()).bind fun _ => (opdC cn (compE g n cn) a).bind fun i => (opdC cn (compE g n cn) b).bind fun j => some (.prim p [i, j])
    | .Compare a [op, op'] [b, c] _ => (cmpP op).bind fun p => (cmpP op').bind fun q => (gd (!lastMarks [op, op'] [b, c]) ()).bind fun _ => (compE g n cn a).bind fun i => (compE g n cn b).bind fun j => (compE g n cn c).bind fun k => some (.chain p q i j k)
    | .Compare a [op, op', op2] [b, c, d] _ => (cmpP op).bind fun p => (cmpP op').bind fun q => (cmpP op2).bind fun r => (gd (!lastMarks [op, op', op2] [b, c, d]) ()).bind fun _ => (compE g n cn a).bind fun i => (compE g n cn b).bind fun j => (compE g n cn c).bind fun k => (compE g n cn d).bind fun l => some (.chain3 p q r i j k l)
    | .Subscript a b _ => match dcE g cn a with
      | some kvs => (gd (notSlc b) ()).bind fun _ => (opdC cn (compE g n cn) b).map fun i => .prim (.getK kvs) [i]
      | none => subC cn (compE g n cn) a b
    | .Call (.Name x _) as [] _ => match callF g cn x with
      | some f => (gd (!as.isEmpty) ()).bind fun _ => (mapO (valC (compE g n cn)) as).map (.call f)
      | none => match clsF g cn x with
        | some fa => (gd (!as.isEmpty) ()).bind fun _ => (mapO (valC (compE g n cn)) as).map (.make x fa.2 fa.1)
        | none => match isiT g cn x as with
          | some (a, t) => (opdC cn (compE g n cn) a).map fun i => .prim (.isi t) [i]
          | none => match rgL g cn x as with
            | some e => (opdC cn (compE g n cn) e).map fun i => .prim .listR [i]
            | none => match rgT g cn x as with
              | some e => (opdC cn (compE g n cn) e).map fun i => .prim .tupR [i]
              | none => (callB g cn x as).bind fun p => (mapO (opdC cn (compE g n cn)) as).map (.prim p)
    | .Call (.Attribute o m apos) as [] cpos => match g.mth.lookup m with
      | some cs => (gd (recvC o && (apos.endLine == cpos.line) && decide (as.length < 29)) ()).bind fun _ => (opdC cn (compE g n cn) o).bind fun i => (mapO (valC (compE g n cn)) as).map fun es => .meth m cs [i] es
      | none => popE cn (compE g n cn) o m apos as cpos
    | .Attribute (.Name x p0) f _ => (opdC cn (compE g n cn) (.Name x p0)).map fun i => .prim (.fld f) [i]
    | .ListComp elt [⟨tg, iter, ifs, asy⟩] scope _ => (gd (decide (asy = 0)) ()).bind fun _ => (ownOf cn.N scope.names).bind fun own => (gd (blkB cn scope own) ()).bind fun _ =>
        (itC g cn (compE g n cn) tg iter).bind fun ki => (tgC (blkCn cn scope) tg).bind fun t => (gd (tgIn t (own.map (·.2))) ()).bind fun _ => (mapO (compE g n (blkCn cn scope)) ifs).bind fun fs => (gd (decide (fs.length ≤ 1)) ()).bind fun _ => (compE g n (blkCn cn scope) elt).bind fun y =>
          some (.lc (own.map (·.2)) t ki.1 ki.2 fs y)
    | _ => none

/-- a, b = x, y: stored from the right -/
def locT (cn : Cn) (x : Str) : Bool := match cn.nm.lookup x with | some .local => true | _ => false
def parC (cn : Cn) (px py : Pos) (x y : Str) (a b : Expr) : Bool :=
  locT cn x && locT cn y && !(x == y) && (px.line == py.line) && !([a, b].all (foldedForSure 8)) && !([a, b].all (constantsAlone 8))
def parT (cn : Cn) (x y : Str) : Bool := (cn.nm.lookup x == some .cell) || (cn.nm.lookup y == some .cell)
def parC3 (cn : Cn) (px py pz : Pos) (x y z : Str) (a b c : Expr) : Bool :=
  locT cn x && locT cn y && locT cn z && !(x == y) && !(x == z) && !(y == z) && (px.line == py.line) && (px.line == pz.line) && !([a, b, c].all (foldedForSure 8)) && !([a, b, c].all (constantsAlone 8))
/-- a comprehension given to a name: whether its block shares the line (then another rule) -/
def swapOk (cn : Cn) (x : Str) (px : Pos) : Expr → Bool
  | .ListComp _ _ sc p => (match cn.nm.lookup x with | some .local => (px.line == p.line) && !(sc.names.any fun (n, k) => n == x && (k == .local || k == .cell)) | _ => false)
  | .SetComp .. => false
  | .DictComp .. => false
  | _ => true
def noComp : Expr → Bool
  | .ListComp .. => false | .SetComp .. => false | .DictComp .. => false | _ => true
def notTup : Expr → Bool
  | .Tuple .. => false | _ => true
/-- a name is handed on; else no name's slot is -/
def retOk : Expr → E → Bool
  | .Name .., _ => true
  | _, .var _ => false
  | _, _ => true
/-- constants, and displays of them: in an except clause nothing else is worked out -/
def compK : Nat → Expr → Option E
  | 0, _ => none
  | n + 1, e => match e with
    | .Constant c _ _ => (conD c).map .con
    | .Tuple es _ _ => (mapO (compK n) es).map .tup
    | .List es _ => (mapO (compK n) es).map .lst
    | _ => none
def hbC (cn : Cn) : List Stmt → Option HB
  | [.Return (some e) _] => (compK 8 e).map .ret
  | [.Assign [.Name x _] e _] => (wrIx cn x).bind fun i => (compK 8 e).map (.asg i)
  | [.Continue _] => some .ct
  | [.Pass _] => some .pass
  | _ => none
def hdN (cn : Cn) : Option Str → Option (Option Nat)
  | none => some none
  | some n => (gd (match cn.nm.lookup n with | some .local => true | _ => false) ()).bind fun _ => (slotIx cn.N n).map some
def hdC (g : G) (cn : Cn) : ExceptHandler → Option (Nat × Option Nat × HB)
  | .ExceptHandler (some (.Name x _)) nm body _ => (gd (glN cn x && plainName x) ()).bind fun _ => (g.exs.lookup x).bind fun k => (hdN cn nm).bind fun o => (hbC cn body).map fun b => (k, o, b)
  | _ => none
def compS (g : G) (bx : Bool) : Nat → Cn → Stmt → Option S
  | 0, _, _ => none
  | n + 1, cn, s => match s with
    | .Pass _ => some .pass
    | .Break _ => some .brk
    | .Continue _ => some .ct
    | .Expr (.Call (.Attribute (.Name x _) m apos) [e] [] cpos) _ => (gd (apos.endLine == cpos.line) ()).bind fun _ => (rdIx cn x).bind fun i => (compE g n cn e).bind fun a => if m = "append" then some (.app i a) else if m = "extend" then some (.ext i a) else none
    | .Expr e _ => (gd (noComp e) ()).bind fun _ => (compE g n cn e).map .expr
    | .Return none _ => some .retN
    | .Return (some e) _ => match bx, e with
      | true, .List es _ => (mapO (valC (compE g n cn)) es).map fun l => .ret (.box l)
      | _, e => (compE g n cn e).bind fun a => gd (retOk e a) (.ret a)
    | .If c a b _ => (compE g n cn c).bind fun k => (mapO (compS g bx n cn) a).bind fun i => (mapO (compS g bx n cn) b).bind fun j => some (.ite k i j)
    | .While c body [] _ => (compE g n cn c).bind fun k => (mapO (compS g bx n cn) body).map fun b => .while k b
    | .For tg it body [] _ => (itC g cn (compE g n cn) tg it).bind fun ki => (tgC cn tg).bind fun t => (mapO (compS g bx n cn) body).map fun b => .for t ki.1 ki.2 b
    | .Assign [.Name x px] e _ => (gd (swapOk cn x px e) ()).bind fun _ => (wrIx cn x).bind fun i => (compE g n cn e).map fun a => .asg (.name i) a
    | .Assign [.Tuple [.Name x px, .Name y py] k1 p1] (.Tuple [a, b] k2 p2) _ =>
        (gd (parC cn px py x y a b || parT cn x y) ()).bind fun _ => (wrIx cn x).bind fun i => (wrIx cn y).bind fun j => (compE g n cn a).bind fun u => (compE g n cn b).bind fun v => some (.par [i, j] [u, v])
    | .Assign [.Tuple [.Name x px, .Name y py, .Name z pz] k1 p1] (.Tuple [a, b, c] k2 p2) _ =>
        (gd (parC3 cn px py pz x y z a b c) ()).bind fun _ => (wrIx cn x).bind fun i => (wrIx cn y).bind fun j => (wrIx cn z).bind fun l => (compE g n cn a).bind fun u => (compE g n cn b).bind fun v => (compE g n cn c).bind fun w => some (.par [i, j, l] [u, v, w])
    | .Assign [.Tuple [.Subscript (.Name x px) ka _, .Subscript (.Name y py) kb _] k1 p1] (.Tuple [a, b] k2 p2) _ =>
        (gd (notSlc ka && notSlc kb) ()).bind fun _ => (rdIx cn x).bind fun i => (rdIx cn y).bind fun j => (compE g n cn ka).bind fun k => (compE g n cn kb).bind fun l => (compE g n cn a).bind fun u => (compE g n cn b).bind fun v => some (.parIx i k j l u v)
    | .Assign [.Tuple es k1 p1] e _ => (gd (noComp e && notTup e) ()).bind fun _ => (tgC cn (.Tuple es k1 p1)).bind fun t => (compE g n cn e).map fun a => .asg t a
    | .Assign [.Subscript (.Name x _) k _] e _ => (gd (noComp e && notSlc k) ()).bind fun _ => (rdIx cn x).bind fun i => (compE g n cn k).bind fun j => (compE g n cn e).map fun a => .setIx i j a
    | .Assign [.Attribute (.Name x p0) f _] e _ => (gd (noComp e) ()).bind fun _ => (opdC cn (compE g n cn) (.Name x p0)).bind fun i => (compE g n cn e).map fun a => .setF i f a
    | .Raise (some (.Call (.Name x _) [] [] _)) none _ => (gd (glN cn x && plainName x) ()).bind fun _ => (g.exs.lookup x).map fun k => .raise k []
    | .Try body (h :: hs) [] [] _ => (mapO (compS g bx n cn) body).bind fun b => (mapO (hdC g cn) (h :: hs)).map fun l => .tri b l
    | .AugAssign (.Attribute (.Name x p0) f _) .Add e _ => (opdC cn (compE g n cn) (.Name x p0)).bind fun i => (compE g n cn e).map fun a => .augF i f a
    | .AugAssign (.Name x _) .Add e _ => (wrIx cn x).bind fun i => (compE g n cn e).map fun a => .aug i a
    | _ => none
/-- a def: its parameters, its slots' names -/
def compF (g : G) (bx : Bool) (ps N : List Str) : Stmt → Option FDef
  | .FunctionDef nm _ body _ _ _ scope _ _ _ => (mapO (compS g bx 200 ⟨N, scope.names, fun _ => true⟩) body).map fun b => ⟨ps.length, N.length, b, nm == "__init__"⟩
  | _ => none
end IP

set_option Elab.async false
set_option linter.all false
set_option maxRecDepth 100000
namespace IP
open PySem PySem.Spec PyProof.Rows L2

/-! ### what a pure value is in the heap -/
/-- a tuple of the written part -/
def KT (K : PySem.W.Frag) (a : Addr) (xs : List V) : Prop :=
  ∃ (o : Obj) (its : Array Value) (n : Nat), K.lookup a = some o ∧ o.cls = .type "tuple" ∧ o.data = .seq its n ∧ its.size ≤ sizeLine ∧ Vals xs its.toList
def KL (K : PySem.W.Frag) (a : Addr) (xs : List V) : Prop :=
  ∃ (o : Obj) (its : Array Value) (n : Nat), K.lookup a = some o ∧ o.cls = .type "list" ∧ o.dict = none ∧ o.data = .seq its n ∧ its.size ≤ sizeLine ∧ Vals xs its.toList
/-- a key of a dict -/
def kD : Key → D
  | .inl i => .int i
  | .inr x => .str x
mutual
/-- v is d; the lists in it stand at places that nobody writes (P: the places that are written) -/
inductive RV (K : PySem.W.Frag) (P : Addr → Prop) (ι : List Addr) (H : Hp) : V → D → Prop
  | non : RV K P ι H .non .non
  | bl (b : Bool) : RV K P ι H (.bl b) (.bl b)
  | int (i : Int) : RV K P ι H (.int i) (.int i)
  | str (x : Str) : RV K P ι H (.str x) (.str x)
  | tupH {a : Addr} {xs : List V} {ds : List D} (h : H a = some (.tup xs)) (n : ¬ P a) (r : RVs K P ι H xs ds) : RV K P ι H (.ref a) (.tup ds)
  | tupK {a : Addr} {xs : List V} {ds : List D} (h : KT K a xs) (r : RVs K P ι H xs ds) : RV K P ι H (.ref a) (.tup ds)
  | lst {a : Addr} {xs : List V} {ds : List D} (h : H a = some (.lst xs)) (n : ¬ P a) (r : RVs K P ι H xs ds) : RV K P ι H (.ref a) (.lst ds)
  | scrH {a : Addr} {ns : List Int} (h : Rd H a (.lst (ns.map V.int))) (n : ¬ P a) : RV K P ι H (.ref a) (.scr ns)
  | scrK {a : Addr} {ns : List Int} (h : KL K a (ns.map V.int)) : RV K P ι H (.ref a) (.scr ns)
  | ref {a : Addr} {k : Nat} (h : ι[k]? = some a) : RV K P ι H (.ref a) (.ref k)
  | dctK {a : Addr} {kvs : List (Key × V)} {ks ds : List D} (h : H a = some (.dK kvs)) (n : ¬ P a) (e : ks = kvs.map fun p => kD p.1) (r : RVs K P ι H (kvs.map (·.2)) ds) : RV K P ι H (.ref a) (.dct ks ds)
  | dctT {a : Addr} {kvs : List (List Key × V)} {ks ds : List D} (h : H a = some (.dT kvs)) (n : ¬ P a) (e : ks = kvs.map fun p => .tup (p.1.map kD)) (r : RVs K P ι H (kvs.map (·.2)) ds) : RV K P ι H (.ref a) (.dct ks ds)
inductive RVs (K : PySem.W.Frag) (P : Addr → Prop) (ι : List Addr) (H : Hp) : List V → List D → Prop
  | nil : RVs K P ι H [] []
  | cons {v : V} {d : D} {vs : List V} {ds : List D} (h : RV K P ι H v d) (t : RVs K P ι H vs ds) : RVs K P ι H (v :: vs) (d :: ds)
end
/-- from one heap to the next: what is not written stays; nothing that stood is written newly -/
structure Tr (P P' : Addr → Prop) (ι ι' : List Addr) (H H' : Hp) : Prop where
  keep : ∀ a o, H a = some o → ¬ P a → H' a = some o
  sub : ∀ a o, H a = some o → P' a → P a
  pre : ∀ (k : Nat) (a : Addr), ι[k]? = some a → ι'[k]? = some a
section
variable {K : PySem.W.Frag} {P P' : Addr → Prop} {ι ι' : List Addr} {H H' : Hp}
theorem Rd.tr {a : Addr} {u : HO} (t : Tr P P' ι ι' H H') (h : Rd H a u) (n : ¬ P a) : Rd H' a u ∧ ¬ P' a := by
  rcases h with h | ⟨o, h⟩
  · exact ⟨.inl (t.keep _ _ h n), fun z => n (t.sub _ _ h z)⟩
  · exact ⟨.inr ⟨o, t.keep _ _ h n⟩, fun z => n (t.sub _ _ h z)⟩
mutual
theorem RV.tr (t : Tr P P' ι ι' H H') : ∀ {v : V} {d : D}, RV K P ι H v d → RV K P' ι' H' v d
  | _, _, .non => .non
  | _, _, .bl b => .bl b
  | _, _, .int i => .int i
  | _, _, .str x => .str x
  | _, _, .tupH h n r => .tupH (t.keep _ _ h n) (fun z => n (t.sub _ _ h z)) (RVs.tr t r)
  | _, _, .tupK h r => .tupK h (RVs.tr t r)
  | _, _, .lst h n r => .lst (t.keep _ _ h n) (fun z => n (t.sub _ _ h z)) (RVs.tr t r)
  | _, _, .scrH h n => .scrH (Rd.tr t h n).1 (Rd.tr t h n).2
  | _, _, .scrK h => .scrK h
  | _, _, .ref h => .ref (t.pre _ _ h)
  | _, _, .dctK h n e r => .dctK (t.keep _ _ h n) (fun z => n (t.sub _ _ h z)) e (RVs.tr t r)
  | _, _, .dctT h n e r => .dctT (t.keep _ _ h n) (fun z => n (t.sub _ _ h z)) e (RVs.tr t r)
theorem RVs.tr (t : Tr P P' ι ι' H H') : ∀ {vs : List V} {ds : List D}, RVs K P ι H vs ds → RVs K P' ι' H' vs ds
  | _, _, .nil => .nil
  | _, _, .cons h r => .cons (RV.tr t h) (RVs.tr t r)
end
theorem RVs.length : ∀ {vs : List V} {ds : List D}, RVs K P ι H vs ds → vs.length = ds.length
  | _, _, .nil => rfl
  | _, _, .cons _ r => congrArg (· + 1) (RVs.length r)
theorem RVs.append : ∀ {vs ws : List V} {ds es : List D}, RVs K P ι H vs ds → RVs K P ι H ws es → RVs K P ι H (vs ++ ws) (ds ++ es)
  | _, _, _, _, .nil, s => s
  | _, _, _, _, .cons h r, s => .cons h (RVs.append r s)
theorem RVs.get : ∀ {vs : List V} {ds : List D} {i : Nat} {d : D}, RVs K P ι H vs ds → ds[i]? = some d → ∃ v, vs[i]? = some v ∧ RV K P ι H v d
  | _, _, _, _, .nil, e => by simp at e
  | _, _, 0, _, .cons h _, e => by simp at e; subst e; exact ⟨_, rfl, h⟩
  | _, _, i + 1, d, .cons _ r, e => by
    obtain ⟨v, h1, h2⟩ := RVs.get (i := i) (d := d) r (by simpa using e)
    exact ⟨v, by simpa using h1, h2⟩
theorem RVs.set {v : V} {d : D} (h : RV K P ι H v d) : ∀ {vs : List V} {ds : List D} (i : Nat), RVs K P ι H vs ds → RVs K P ι H (vs.set i v) (ds.set i d)
  | _, _, _, .nil => .nil
  | _, _, 0, .cons _ r => .cons h r
  | _, _, i + 1, .cons g r => .cons g (RVs.set h i r)
theorem RVs.take : ∀ {vs : List V} {ds : List D} (n : Nat), RVs K P ι H vs ds → RVs K P ι H (vs.take n) (ds.take n)
  | _, _, 0, _ => .nil
  | _, _, _ + 1, .nil => .nil
  | _, _, n + 1, .cons h r => .cons h (RVs.take n r)
theorem RVs.drop : ∀ {vs : List V} {ds : List D} (n : Nat), RVs K P ι H vs ds → RVs K P ι H (vs.drop n) (ds.drop n)
  | _, _, 0, r => r
  | _, _, _ + 1, .nil => .nil
  | _, _, n + 1, .cons _ r => RVs.drop n r
theorem RVs.eraseIdx : ∀ {vs : List V} {ds : List D} (i : Nat), RVs K P ι H vs ds → RVs K P ι H (vs.eraseIdx i) (ds.eraseIdx i)
  | _, _, _, .nil => .nil
  | _, _, 0, .cons _ t => t
  | _, _, i + 1, .cons r t => .cons r (RVs.eraseIdx i t)
theorem RVs.rep {vs : List V} {ds : List D} (h : RVs K P ι H vs ds) : ∀ k : Nat, RVs K P ι H (List.replicate k vs).flatten (List.replicate k ds).flatten
  | 0 => .nil
  | k + 1 => by
    rw [List.replicate_succ, List.replicate_succ, List.flatten_cons, List.flatten_cons]
    exact h.append (RVs.rep h k)
theorem RVs.dropLast {vs : List V} {ds : List D} (h : RVs K P ι H vs ds) : RVs K P ι H vs.dropLast ds.dropLast := by
  rw [List.dropLast_eq_take, List.dropLast_eq_take, h.length]
  exact h.take _
theorem RVs.ints : ∀ (ns : List Int), RVs K P ι H (ns.map V.int) (ns.map D.int)
  | [] => .nil
  | n :: ns => .cons (.int n) (RVs.ints ns)
end
/-! ### boxes -/
/-- an own class, and attributes that the class itself has not -/
def ClsI (K : PySem.W.Frag) (c : Str) (al : List Str) : Prop := Cls K (He.ga K c) ∧ ∀ f ∈ al, NoAttr K (He.ga K c) f
/-- what stands at a is the box -/
inductive RBx (K : PySem.W.Frag) (P : Addr → Prop) (ι : List Addr) (H : Hp) (a : Addr) : Bx → Prop
  | lst {xs : List V} {ds : List D} (h : H a = some (.lst xs)) (r : RVs K P ι H xs ds) : RBx K P ι H a (.lst ds)
  | ins {dx : Addr} {fvs : List (Str × V)} {c : Str} {al : List Str} {fs : List (Str × D)} (h : H a = some (.ins (He.ga K c) dx fvs)) (k : ClsI K c al) (e : fvs.map (·.1) = fs.map (·.1)) (s : ∀ f ∈ fs.map (·.1), f ∈ al) (r : RVs K P ι H (fvs.map (·.2)) (fs.map (·.2))) : RBx K P ι H a (.ins c al fs)
  | dctK {kvs : List (Key × V)} {ks ds : List D} (h : H a = some (.dK kvs)) (e : ks = kvs.map fun p => kD p.1) (r : RVs K P ι H (kvs.map (·.2)) ds) : RBx K P ι H a (.dct ks ds)
  | dctT {kvs : List (List Key × V)} {ks ds : List D} (h : H a = some (.dT kvs)) (e : ks = kvs.map fun p => .tup (p.1.map kD)) (r : RVs K P ι H (kvs.map (·.2)) ds) : RBx K P ι H a (.dct ks ds)
section
variable {K : PySem.W.Frag} {P P' : Addr → Prop} {ι ι' : List Addr} {H H' : Hp} {a : Addr} {b : Bx}
theorem RBx.tr (h : RBx K P ι H a b) (t : Tr P P' ι ι' H H') (ha : ∀ o, H a = some o → H' a = some o) : RBx K P' ι' H' a b := by
  cases h with
  | lst h r => exact .lst (ha _ h) (r.tr t)
  | ins h k e s r => exact .ins (ha _ h) k e s (r.tr t)
  | dctK h e r => exact .dctK (ha _ h) e (r.tr t)
  | dctT h e r => exact .dctT (ha _ h) e (r.tr t)
theorem RBx.at (h : RBx K P ι H a b) : ∃ o, H a = some o := by
  cases h with
  | lst h r => exact ⟨_, h⟩
  | ins h k e s r => exact ⟨_, h⟩
  | dctK h e r => exact ⟨_, h⟩
  | dctT h e r => exact ⟨_, h⟩
end
/-! ### the frame -/
def Prot (Ω : Addr → Prop) (ι : List Addr) (ow : Nat → Option Addr) : Addr → Prop := fun a => Ω a ∨ a ∈ ι ∨ ∃ i, ow i = some a
def addp (Ω : Addr → Prop) (p : Addr) : Addr → Prop := fun a => Ω a ∨ a = p
def noow : Nat → Option Addr := fun _ => none
/-- the interpreter's state stands in the heap. Ω: places that others write; ι: the boxed objects; ow: the lists that slots own -/
structure Rel (K : PySem.W.Frag) (Ω : Addr → Prop) (ι : List Addr) (ow : Nat → Option Addr) (env : EnvI) (st : Sto) (σ : L2.St) (H : Hp) : Prop where
  len : env.length = σ.length
  slen : ι.length = st.length
  nodup : ι.Nodup
  disj : ∀ a, Ω a → a ∉ ι ∧ ∀ i, ow i ≠ some a
  trk : ∀ a, Ω a → ∃ o, H a = some o
  owio : ∀ i a, ow i = some a → a ∉ ι
  inj : ∀ i j a, ow i = some a → ow j = some a → i = j
  owsl : ∀ (i : Nat) (a : Addr), ow i = some a → ∃ ds, env[i]? = some (.own ds)
  vals : ∀ (i : Nat) (d : D), env[i]? = some (.val d) → ∃ v, σ[i]? = some (some v) ∧ RV K (Prot Ω ι ow) ι H v d
  owns : ∀ (i : Nat) (ds : List D), env[i]? = some (.own ds) → ∃ a xs, ow i = some a ∧ σ[i]? = some (some (.ref a)) ∧ H a = some (.lst xs) ∧ RVs K (Prot Ω ι ow) ι H xs ds
  boxs : ∀ (k : Nat) (b : Bx), st[k]? = some b → ∃ a, ι[k]? = some a ∧ RBx K (Prot Ω ι ow) ι H a b
structure Fr (ι : List Addr) (ow : Nat → Option Addr) (H : Hp) (ι' : List Addr) (ow' : Nat → Option Addr) (H' : Hp) : Prop where
  pre : ∀ (k : Nat) (a : Addr), ι[k]? = some a → ι'[k]? = some a
  keep : ∀ a o, H a = some o → a ∉ ι → (∀ i, ow i ≠ some a) → H' a = some o
  dom : ∀ a o, H a = some o → ∃ o', H' a = some o'
  new : ∀ a o, H a = some o → (a ∈ ι' ∨ ∃ i, ow' i = some a) → (a ∈ ι ∨ ∃ i, ow i = some a)
section
variable {K : PySem.W.Frag} {Ω Ω' : Addr → Prop} {ι ι' ι2 : List Addr} {ow ow' ow2 : Nat → Option Addr} {env : EnvI} {st : Sto} {σ : L2.St} {H H' H2 : Hp}
theorem Fr.refl : Fr ι ow H ι ow H := ⟨fun _ _ h => h, fun _ _ h _ _ => h, fun _ o h => ⟨o, h⟩, fun _ _ _ h => h⟩
theorem Fr.trans (a : Fr ι ow H ι' ow' H') (b : Fr ι' ow' H' ι2 ow2 H2) : Fr ι ow H ι2 ow2 H2 where
  pre := fun k x h => b.pre k x (a.pre k x h)
  keep := fun x o h h1 h2 => by
    have h3 := a.keep x o h h1 h2
    refine b.keep x o h3 (fun z => ?_) (fun i z => ?_)
    · rcases a.new x o h (.inl z) with q | ⟨j, q⟩
      · exact h1 q
      · exact h2 j q
    · rcases a.new x o h (.inr ⟨i, z⟩) with q | ⟨j, q⟩
      · exact h1 q
      · exact h2 j q
  dom := fun x o h => by
    obtain ⟨o', h'⟩ := a.dom x o h
    exact b.dom x o' h'
  new := fun x o h z => by
    obtain ⟨o', h'⟩ := a.dom x o h
    exact a.new x o h (b.new x o' h' z)
theorem Fr.tr (a : Fr ι ow H ι' ow' H') : Tr (Prot Ω ι ow) (Prot Ω ι' ow') ι ι' H H' where
  keep := fun x o h n => a.keep x o h (fun z => n (.inr (.inl z))) fun i z => n (.inr (.inr ⟨i, z⟩))
  sub := fun x o h z => by
    rcases z with z | z
    · exact .inl z
    · exact .inr (a.new x o h z)
  pre := a.pre
/-- .. one more place, that was free, is written -/
theorem Fr.trp {p : Addr} (a : Fr ι ow H ι' ow' H') (hp : H p = none) : Tr (Prot Ω ι ow) (Prot (addp Ω p) ι' ow') ι ι' H H' where
  keep := fun x o h n => a.keep x o h (fun z => n (.inr (.inl z))) fun i z => n (.inr (.inr ⟨i, z⟩))
  sub := fun x o h z => by
    rcases z with (z | z) | z
    · exact .inl z
    · subst z; rw [hp] at h; cases h
    · exact .inr (a.new x o h z)
  pre := a.pre
/-- fewer places are written -/
theorem Tr.less {P P' : Addr → Prop} (h : ∀ a, P' a → P a) : Tr P P' ι ι H H := ⟨fun _ _ h _ => h, fun a _ _ z => h a z, fun _ _ h => h⟩
/-- the heap grows -/
theorem Tr.grow {P P' : Addr → Prop} (hH : ∀ a o, H a = some o → H' a = some o) (h : ∀ a o, H a = some o → P' a → P a) : Tr P P' ι ι H H' := ⟨fun a o e _ => hH a o e, h, fun _ _ h => h⟩
theorem Fr.grow (hH : ∀ a o, H a = some o → H' a = some o) : Fr ι ow H ι ow H' := ⟨fun _ _ h => h, fun a o h _ _ => hH a o h, fun a o h => ⟨o, hH a o h⟩, fun _ _ _ h => h⟩
theorem upd_keep {p : Addr} {o : HO} (hp : H p = none) : ∀ a u, H a = some u → upd H p o a = some u := fun a u h => by
  rw [upd_ne (ne_of_none h hp)]; exact h
theorem Rel.ow_trk (R : Rel K Ω ι ow env st σ H) {i : Nat} {a : Addr} (h : ow i = some a) : ∃ xs, H a = some (.lst xs) := by
  obtain ⟨ds, e⟩ := R.owsl i a h
  obtain ⟨a', xs, h1, _, h2, _⟩ := R.owns i ds e
  rw [h] at h1; cases h1
  exact ⟨xs, h2⟩
theorem Rel.io_trk (R : Rel K Ω ι ow env st σ H) {a : Addr} (h : a ∈ ι) : ∃ o, H a = some o := by
  obtain ⟨k, hk⟩ := List.getElem?_of_mem h
  have hlt : k < st.length := by
    rw [← R.slen]
    exact (List.getElem?_eq_some_iff.mp hk).1
  obtain ⟨a', h1, h2⟩ := R.boxs k _ (List.getElem?_eq_getElem hlt)
  rw [hk] at h1; cases h1
  exact h2.at
theorem Rel.prot_trk (R : Rel K Ω ι ow env st σ H) {a : Addr} (h : Prot Ω ι ow a) : ∃ o, H a = some o := by
  rcases h with h | h | ⟨i, h⟩
  · exact R.trk a h
  · exact R.io_trk h
  · obtain ⟨xs, h⟩ := R.ow_trk h; exact ⟨_, h⟩
/-- the heap grows, others write more new places -/
theorem Rel.grow (R : Rel K Ω ι ow env st σ H) (hH : ∀ a o, H a = some o → H' a = some o) (hΩ : ∀ a, Ω' a → Ω a ∨ H a = none) (hT : ∀ a, Ω' a → ∃ o, H' a = some o) : Rel K Ω' ι ow env st σ H' := by
  have tr : Tr (Prot Ω ι ow) (Prot Ω' ι ow) ι ι H H' := .grow hH fun a o e z => by
    rcases z with z | z
    · rcases hΩ a z with z | z
      · exact .inl z
      · rw [z] at e; cases e
    · exact .inr z
  refine ⟨R.len, R.slen, R.nodup, fun a z => ?_, hT, R.owio, R.inj, R.owsl, fun i d e => ?_, fun i ds e => ?_, fun k ds e => ?_⟩
  · rcases hΩ a z with z | z
    · exact R.disj a z
    · refine ⟨fun q => ?_, fun i q => ?_⟩
      · obtain ⟨xs, h⟩ := R.io_trk q; rw [z] at h; cases h
      · obtain ⟨xs, h⟩ := R.ow_trk q; rw [z] at h; cases h
  · obtain ⟨v, h1, h2⟩ := R.vals i d e
    exact ⟨v, h1, h2.tr tr⟩
  · obtain ⟨a, xs, h1, h2, h3, h4⟩ := R.owns i ds e
    exact ⟨a, xs, h1, h2, hH _ _ h3, h4.tr tr⟩
  · obtain ⟨a, h1, h2⟩ := R.boxs k ds e
    exact ⟨a, h1, h2.tr tr fun o e => hH _ _ e⟩
/-- others write less -/
theorem Rel.less (R : Rel K Ω ι ow env st σ H) (h : ∀ a, Ω' a → Ω a) : Rel K Ω' ι ow env st σ H :=
  R.grow (fun _ _ e => e) (fun a z => .inl (h a z)) fun a z => R.trk a (h a z)
/-- a new object, not written by anybody -/
theorem Rel.new {p : Addr} {o : HO} (R : Rel K Ω ι ow env st σ H) (hp : H p = none) : Rel K Ω ι ow env st σ (upd H p o) :=
  R.grow (upd_keep hp) (fun _ z => .inl z) fun a z => by
    obtain ⟨u, e⟩ := R.trk a z
    exact ⟨u, upd_keep hp a u e⟩
/-- a new object that will be written -/
theorem Rel.newp {p : Addr} {o : HO} (R : Rel K Ω ι ow env st σ H) (hp : H p = none) : Rel K (addp Ω p) ι ow env st σ (upd H p o) :=
  R.grow (upd_keep hp) (fun a z => by
    rcases z with z | z
    · exact .inl z
    · subst z; exact .inr hp) fun a z => by
    rcases z with z | z
    · obtain ⟨u, e⟩ := R.trk a z
      exact ⟨u, upd_keep hp a u e⟩
    · subst z; exact ⟨o, upd_same⟩
/-- σ is looked at by env alone -/
theorem Rel.slots {env' : EnvI} {σ' : L2.St} (R : Rel K Ω ι ow env st σ H) (hl : env'.length = σ'.length) (hv : ∀ (i : Nat) (d : D), env'[i]? = some (.val d) → env[i]? = some (.val d) ∧ σ'[i]? = σ[i]?) (ho : ∀ (i : Nat) (ds : List D), env'[i]? = some (.own ds) → env[i]? = some (.own ds) ∧ σ'[i]? = σ[i]?) :
    Rel K Ω ι (fun i => match env'[i]? with | some (.own _) => ow i | _ => none) env' st σ' H := by
  have hs : ∀ i a, (match env'[i]? with | some (.own _) => ow i | _ => none) = some a → ow i = some a ∧ ∃ ds, env'[i]? = some (.own ds) := fun i a z => by
    split at z
    · rename_i ds e; exact ⟨z, ds, e⟩
    · cases z
  have lt : Tr (Prot Ω ι ow) (Prot Ω ι (fun i => match env'[i]? with | some (.own _) => ow i | _ => none)) ι ι H H := .less fun a z => by
    rcases z with z | z | ⟨i, z⟩
    · exact .inl z
    · exact .inr (.inl z)
    · exact .inr (.inr ⟨i, (hs i a z).1⟩)
  refine ⟨hl, R.slen, R.nodup, fun a z => ⟨(R.disj a z).1, fun i q => (R.disj a z).2 i (hs i a q).1⟩, R.trk, fun i a z => R.owio i a (hs i a z).1, fun i j a z q => R.inj i j a (hs i a z).1 (hs j a q).1, fun i a z => (hs i a z).2, fun i d e => ?_, fun i ds e => ?_, fun k ds e => ?_⟩
  · obtain ⟨e1, e2⟩ := hv i d e
    obtain ⟨v, h1, h2⟩ := R.vals i d e1
    exact ⟨v, by rw [e2]; exact h1, h2.tr lt⟩
  · obtain ⟨e1, e2⟩ := ho i ds e
    obtain ⟨a, xs, h1, h2, h3, h4⟩ := R.owns i ds e1
    exact ⟨a, xs, by rw [e]; exact h1, by rw [e2]; exact h2, h3, h4.tr lt⟩
  · obtain ⟨a, h1, h2⟩ := R.boxs k ds e
    exact ⟨a, h1, h2.tr lt fun _ e => e⟩
end
end IP

set_option Elab.async false
set_option linter.all false
set_option maxRecDepth 100000
namespace IP
open PySem PySem.Spec PyProof.Rows L2

/-! ### what is wanted behind a step -/
section
variable (K : PySem.W.Frag) (ex : Nat → Addr × Str)
def PostE (Ω : Addr → Prop) (ι : List Addr) (ow : Nat → Option Addr) (H : Hp) (d : D) (env' : EnvI) (st' : Sto) (σ : L2.St) (v : V) (H' : Hp) : Prop :=
  ∃ ι' ow', Fr ι ow H ι' ow' H' ∧ Rel K Ω ι' ow' env' st' σ H' ∧ RV K (Prot Ω ι' ow') ι' H' v d
/-- a list just made -/
def PostF (Ω : Addr → Prop) (ι : List Addr) (ow : Nat → Option Addr) (H : Hp) (ds : List D) (env' : EnvI) (st' : Sto) (σ : L2.St) (v : V) (H' : Hp) : Prop :=
  ∃ ι' ow' p xs, Fr ι ow H ι' ow' H' ∧ v = .ref p ∧ ¬ Ω p ∧ H p = none ∧ H' p = some (.lst xs) ∧ Rel K (addp Ω p) ι' ow' env' st' σ H' ∧ RVs K (Prot (addp Ω p) ι' ow') ι' H' xs ds
def PostR (Ω : Addr → Prop) (ι : List Addr) (ow : Nat → Option Addr) (H : Hp) (r : R) (env' : EnvI) (st' : Sto) (σ : L2.St) (v : V) (H' : Hp) : Prop :=
  match r with
  | (.lst ds, true) => PostF K Ω ι ow H ds env' st' σ v H'
  | (d, _) => PostE K Ω ι ow H d env' st' σ v H'
def RX (P : Addr → Prop) (ι : List Addr) (H : Hp) (x : Exc) (cls : Value) (dd : Option Addr) : Prop :=
  cls = .ref (ex x.c).1 ∧ match x.a with
    | none => True
    | some d => ∃ ad v, dd = some ad ∧ H ad = some (.xd [((ex x.c).2, v)]) ∧ RV K P ι H v d
def PostX (Ω : Addr → Prop) (ι : List Addr) (ow : Nat → Option Addr) (H : Hp) (x : Exc) (env' : EnvI) (st' : Sto) (σ : L2.St) (cls : Value) (dd : Option Addr) (H' : Hp) : Prop :=
  ∃ ι' ow', Fr ι ow H ι' ow' H' ∧ Rel K Ω ι' ow' env' st' σ H' ∧ RX K ex (Prot Ω ι' ow') ι' H' x cls dd
def Run {α : Type} (W : WX) (Ω : Addr → Prop) (ι : List Addr) (ow : Nat → Option Addr) (σ : L2.St) (H : Hp) (r : Res α) (Q : α → EnvI → Sto → Prop) : Prop :=
  match r with
  | .ok a env' st' => Q a env' st'
  | .err x env' st' => ∀ cls dd H', PostX K ex Ω ι ow H x env' st' σ cls dd H' → W cls dd σ H'
  | .stuck => False
/-- the reading of an expression: the interpreter's run, from a state that stands in the heap -/
def TEm (W : WX) (m : M R) : TE := fun σ H Q => ∃ Ω ι ow env st, Rel K Ω ι ow env st σ H ∧ Run K ex W Ω ι ow σ H (m env st) fun r env' st' => ∀ v H', PostR K Ω ι ow H r env' st' σ v H' → Q v H'
/-- .. of an operand: a borrowed name is read as it is -/
def tO (C : CallF) (W : WX) : E → TE
  | .bor i => tVar i
  | e => TEm K ex W (evalE C e)
def tOs (C : CallF) (W : WX) : List E → TA
  | [] => tNil
  | o :: os => tCons (tO K ex C W o) (tOs C W os)
/-- a value that is looked at: it may be a list that is written later -/
def RB (P : Addr → Prop) (ι : List Addr) (H : Hp) (v : V) (d : D) : Prop :=
  RV K P ι H v d ∨ ∃ a xs ds, v = .ref a ∧ d = .lst ds ∧ H a = some (.lst xs) ∧ RVs K P ι H xs ds
inductive RBs (P : Addr → Prop) (ι : List Addr) (H : Hp) : List V → List D → Prop
  | nil : RBs P ι H [] []
  | cons {v : V} {d : D} {vs : List V} {ds : List D} (h : RB K P ι H v d) (t : RBs P ι H vs ds) : RBs P ι H (v :: vs) (d :: ds)
/-- .. as an operand is told -/
def RO (P : Addr → Prop) (ι : List Addr) (H : Hp) (o : E) (v : V) (d : D) : Prop := match o with
  | .bor _ => RB K P ι H v d
  | _ => RV K P ι H v d
inductive ROs (P : Addr → Prop) (ι : List Addr) (H : Hp) : List E → List V → List D → Prop
  | nil : ROs P ι H [] [] []
  | cons {o : E} {v : V} {d : D} {os : List E} {vs : List V} {ds : List D} (h : RO K P ι H o v d) (t : ROs P ι H os vs ds) : ROs P ι H (o :: os) (v :: vs) (d :: ds)
end
section
variable {K : PySem.W.Frag} {ex : Nat → Addr × Str} {Ω Ω' : Addr → Prop} {ι ι' : List Addr} {ow ow' : Nat → Option Addr} {env env' : EnvI} {st st' : Sto} {σ : L2.St} {H H' : Hp} {W : WX}
theorem PostE.trans {d : D} {v : V} {H2 : Hp} {ι1 : List Addr} {ow1 : Nat → Option Addr} (f : Fr ι ow H ι1 ow1 H') (p : PostE K Ω ι1 ow1 H' d env st σ v H2) : PostE K Ω ι ow H d env st σ v H2 := by
  obtain ⟨ι', ow', a, b, c⟩ := p
  exact ⟨ι', ow', f.trans a, b, c⟩
theorem PostF.trans {ds : List D} {v : V} {H2 : Hp} {ι1 : List Addr} {ow1 : Nat → Option Addr} (f : Fr ι ow H ι1 ow1 H') (p : PostF K Ω ι1 ow1 H' ds env st σ v H2) : PostF K Ω ι ow H ds env st σ v H2 := by
  obtain ⟨ι', ow', q, xs, a, b, b1, c, d⟩ := p
  refine ⟨ι', ow', q, xs, f.trans a, b, b1, ?_, d⟩
  cases e : H q with
  | none => rfl
  | some o =>
    obtain ⟨o', e'⟩ := f.dom q o e
    rw [c] at e'; cases e'
theorem PostR.trans {r : R} {v : V} {H2 : Hp} {ι1 : List Addr} {ow1 : Nat → Option Addr} (f : Fr ι ow H ι1 ow1 H') (p : PostR K Ω ι1 ow1 H' r env st σ v H2) : PostR K Ω ι ow H r env st σ v H2 := by
  obtain ⟨d, b⟩ := r
  cases b
  · cases d <;> exact PostE.trans f p
  · cases d <;> first | exact PostE.trans f p | exact PostF.trans f p
theorem PostX.trans {x : Exc} {cls : Value} {dd : Option Addr} {H2 : Hp} {ι1 : List Addr} {ow1 : Nat → Option Addr} (f : Fr ι ow H ι1 ow1 H') (p : PostX K ex Ω ι1 ow1 H' x env st σ cls dd H2) : PostX K ex Ω ι ow H x env st σ cls dd H2 := by
  obtain ⟨ι', ow', a, b, c⟩ := p
  exact ⟨ι', ow', f.trans a, b, c⟩
/-- a list just made is let go -/
theorem PostF.weak {ds : List D} {v : V} (p : PostF K Ω ι ow H ds env st σ v H') : PostE K Ω ι ow H (.lst ds) env st σ v H' := by
  obtain ⟨ι', ow', q, xs, a, rfl, b1, c, d, e, f⟩ := p
  refine ⟨ι', ow', a, e.less fun _ z => .inl z, .lst d (fun z => ?_) (f.tr (.less fun x z => ?_))⟩
  · rcases z with z | z | ⟨i, z⟩
    · exact b1 z
    · exact (e.disj q (.inr rfl)).1 z
    · exact (e.disj q (.inr rfl)).2 i z
  · rcases z with z | z
    · exact .inl (.inl z)
    · exact .inr z
theorem PostR.weak {r : R} {v : V} (p : PostR K Ω ι ow H r env st σ v H') : PostE K Ω ι ow H r.1 env st σ v H' := by
  obtain ⟨d, b⟩ := r
  cases b
  · cases d <;> exact p
  · cases d <;> first | exact p | exact PostF.weak p
theorem PostR.of_pv {d : D} {v : V} (p : PostE K Ω ι ow H d env st σ v H') : PostR K Ω ι ow H (pv d) env st σ v H' := by
  cases d <;> exact p
theorem Run.imp {α : Type} {r : Res α} {Q Q' : α → EnvI → Sto → Prop} (h : Run K ex W Ω ι ow σ H r Q) (hq : ∀ a e s, Q a e s → Q' a e s) : Run K ex W Ω ι ow σ H r Q' := by
  cases r with
  | ok a e s => exact hq a e s h
  | err x e s => exact h
  | stuck => exact h
theorem Run.shift {α : Type} {r : Res α} {Q : α → EnvI → Sto → Prop} {ι1 : List Addr} {ow1 : Nat → Option Addr} {H1 : Hp} (f : Fr ι ow H ι1 ow1 H1) (h : Run K ex W Ω ι ow σ H r Q) : Run K ex W Ω ι1 ow1 σ H1 r Q := by
  cases r with
  | ok a e s => exact h
  | err x e s => exact fun cls dd H' p => h cls dd H' (p.trans f)
  | stuck => exact h
theorem Run.bind {α β : Type} {m : M α} {f : α → M β} {Q : β → EnvI → Sto → Prop} (h : Run K ex W Ω ι ow σ H (M.bind m f env st) Q) : Run K ex W Ω ι ow σ H (m env st) fun a e s => Run K ex W Ω ι ow σ H (f a e s) Q := by
  unfold M.bind at h
  cases e : m env st with
  | ok a e s => rw [e] at h; exact h
  | err x e' s => rw [e] at h; exact h
  | stuck => rw [e] at h; exact h
theorem Run.opt {α : Type} {o : Option α} {Q : α → EnvI → Sto → Prop} (h : Run K ex W Ω ι ow σ H (M.opt o env st) Q) : ∃ a, o = some a ∧ Q a env st := by
  cases o with
  | some a => exact ⟨a, rfl, h⟩
  | none => exact h.elim
/-- the heart of it: an expression, and what follows -/
theorem TEm.of {m : M R} {α : Type} {f : R → M α} {Qf : α → EnvI → Sto → Prop} {Q : VK} (R : Rel K Ω ι ow env st σ H) (h : Run K ex W Ω ι ow σ H (M.bind m f env st) Qf)
    (hq : ∀ r env1 st1 v H1, PostR K Ω ι ow H r env1 st1 σ v H1 → Run K ex W Ω ι ow σ H (f r env1 st1) Qf → Q v H1) : TEm K ex W m σ H Q :=
  ⟨Ω, ι, ow, env, st, R, h.bind.imp fun r e s hr v H' p => hq r e s v H' p hr⟩
/-! ### names -/
theorem Rel.at_bor {i : Nat} (R : Rel K Ω ι ow env st σ H) {d : D} {e : EnvI} {s : Sto} (h : rdBor i env st = .ok d e s) : e = env ∧ s = st ∧ ∃ v, σ[i]? = some (some v) ∧ RB K (Prot Ω ι ow) ι H v d := by
  unfold rdBor at h
  cases q : env[i]? with
  | none => rw [q] at h; cases h
  | some sl =>
    rw [q] at h
    cases sl with
    | none => cases h
    | val d' =>
      cases h
      obtain ⟨v, h1, h2⟩ := R.vals i d q
      exact ⟨rfl, rfl, v, h1, .inl h2⟩
    | own ds =>
      cases h
      obtain ⟨a, xs, h1, h2, h3, h4⟩ := R.owns i ds q
      exact ⟨rfl, rfl, _, h2, .inr ⟨a, xs, ds, rfl, rfl, h3, h4⟩⟩
theorem rdBor_cases (i : Nat) (env : EnvI) (st : Sto) : rdBor i env st = .stuck ∨ ∃ d, rdBor i env st = .ok d env st := by
  unfold rdBor
  cases env[i]? with
  | none => exact .inl rfl
  | some sl => cases sl with
    | none => exact .inl rfl
    | val d => exact .inr ⟨d, rfl⟩
    | own ds => exact .inr ⟨.lst ds, rfl⟩
/-- the operands, from the left -/
theorem ops_of {C : CallF} : ∀ (os : List E) {α : Type} {f : List D → M α} {Qf : α → EnvI → Sto → Prop} {Q : List V → Hp → Prop} {ι : List Addr} {ow : Nat → Option Addr} {env : EnvI} {st : Sto} {H : Hp},
    Rel K Ω ι ow env st σ H → Run K ex W Ω ι ow σ H (M.bind (evalOs C os) f env st) Qf →
    (∀ ds env1 st1 vs H1 ι1 ow1, Fr ι ow H ι1 ow1 H1 → Rel K Ω ι1 ow1 env1 st1 σ H1 → ROs K (Prot Ω ι1 ow1) ι1 H1 os vs ds → Run K ex W Ω ι1 ow1 σ H1 (f ds env1 st1) Qf → Q vs H1) → tOs K ex C W os σ H Q := by
  intro os
  induction os with
  | nil =>
    intro α f Qf Q ι ow env st H R h hq
    exact hq [] env st [] H ι ow .refl R .nil h
  | cons o os ih =>
    intro α f Qf Q ι ow env st H R h hq
    have gen : (∀ P ι H v d, RV K P ι H v d → RO K P ι H o v d) → evalOs C (o :: os) = (M.bind (evalE C o) fun r => M.bind (evalOs C os) fun ds => M.ret (r.1 :: ds)) → tO K ex C W o = TEm K ex W (evalE C o) → tOs K ex C W (o :: os) σ H Q := by
      intro e0 e1 e2
      rw [e1, M.assoc] at h
      show tO K ex C W o σ H _
      rw [e2]
      have h1 := h.bind
      refine ⟨Ω, ι, ow, env, st, R, h1.imp fun r env1 st1 hr v H1 p => ?_⟩
      obtain ⟨ι1, ow1, f1, R1, rv⟩ := p.weak
      have hr2 := Run.shift f1 hr
      rw [M.assoc] at hr2
      refine ih R1 hr2 fun ds env2 st2 vs H2 ι2 ow2 f2 R2 rb h2 => ?_
      exact hq (r.1 :: ds) env2 st2 (v :: vs) H2 ι2 ow2 (f1.trans f2) R2 (.cons (e0 _ _ _ _ _ (rv.tr f2.tr)) rb) h2
    cases o with
    | bor i =>
      show ∃ v, σ[i]? = some (some v) ∧ tOs K ex C W os σ H fun xs H2 => Q (v :: xs) H2
      have e1 : evalOs C (.bor i :: os) = M.bind (rdBor i) fun _ => M.bind (evalOs C os) fun ds => M.bind (rdBor i) fun d => M.ret (d :: ds) := rfl
      rw [e1, M.assoc] at h
      rcases rdBor_cases i env st with q | ⟨d0, q⟩
      · rw [M.bind_stuck q] at h; exact h.elim
      · obtain ⟨_, _, v, hv, _⟩ := R.at_bor q
        refine ⟨v, hv, ?_⟩
        rw [M.bind_ok q, M.assoc] at h
        refine ih R h fun ds env2 st2 vs H2 ι2 ow2 f2 R2 rb h3 => ?_
        rw [M.assoc] at h3
        rcases rdBor_cases i env2 st2 with q3 | ⟨d2, q3⟩
        · rw [M.bind_stuck q3] at h3; exact h3.elim
        · rw [M.bind_ok q3] at h3
          obtain ⟨_, _, v2, hv2, rb2⟩ := R2.at_bor q3
          rw [hv] at hv2; cases hv2
          exact hq (d2 :: ds) env2 st2 (v :: vs) H2 ι2 ow2 f2 R2 (.cons rb2 rb) h3
    | _ => exact gen (fun _ _ _ _ _ z => z) rfl rfl
theorem RO.rb {o : E} {P : Addr → Prop} {v : V} {d : D} (h : RO K P ι H o v d) : RB K P ι H v d := by
  cases o <;> first | exact h | exact .inl h
theorem ROs.rb {P : Addr → Prop} : ∀ {os : List E} {vs : List V} {ds : List D}, ROs K P ι H os vs ds → RBs K P ι H vs ds
  | _, _, _, .nil => .nil
  | _, _, _, .cons h t => .cons h.rb (ROs.rb t)
theorem ROs.rv {P : Addr → Prop} : ∀ {os : List E} {vs : List V} {ds : List D}, ROs K P ι H os vs ds → os.all E.notBor = true → RVs K P ι H vs ds
  | _, _, _, .nil, _ => .nil
  | _, _, _, .cons (o := o) h t, e => by
    rw [List.all_cons, Bool.and_eq_true] at e
    refine .cons ?_ (ROs.rv t e.2)
    cases o <;> first | exact h | exact absurd e.1 Bool.false_ne_true
theorem ROs.length {P : Addr → Prop} : ∀ {os : List E} {vs : List V} {ds : List D}, ROs K P ι H os vs ds → vs.length = os.length ∧ ds.length = os.length
  | _, _, _, .nil => ⟨rfl, rfl⟩
  | _, _, _, .cons h t => ⟨congrArg (· + 1) (ROs.length t).1, congrArg (· + 1) (ROs.length t).2⟩
end
end IP

set_option Elab.async false
set_option linter.all false
set_option maxRecDepth 100000
namespace IP
open PySem PySem.Spec PyProof.Rows L2

/-! ### operations -/
section
variable {K : PySem.W.Frag} {P : Addr → Prop} {ι : List Addr} {H : Hp}
theorem RB.rv {v : V} {d : D} (h : RB K P ι H v d) (n : ∀ ds, d ≠ .lst ds) : RV K P ι H v d := by
  rcases h with h | ⟨a, xs, ds, _, e, _⟩
  · exact h
  · exact absurd e (n ds)
theorem RB.int {v : V} {i : Int} (h : RB K P ι H v (.int i)) : v = .int i := by
  cases h.rv (fun _ z => by cases z); rfl
theorem RB.bl {v : V} {i : Bool} (h : RB K P ι H v (.bl i)) : v = .bl i := by
  cases h.rv (fun _ z => by cases z); rfl
theorem RB.str {v : V} {i : Str} (h : RB K P ι H v (.str i)) : v = .str i := by
  cases h.rv (fun _ z => by cases z); rfl
theorem RB.non {v : V} (h : RB K P ι H v .non) : v = .non := by
  cases h.rv (fun _ z => by cases z); rfl
theorem RV.tupO {v : V} {ds : List D} (h : RV K P ι H v (.tup ds)) : ∃ a xs, v = .ref a ∧ SqT K H a xs ∧ RVs K P ι H xs ds := by
  cases h with
  | tupH h n r => exact ⟨_, _, rfl, .inl (.inl h), r⟩
  | tupK h r => exact ⟨_, _, rfl, .inr h, r⟩
theorem RB.tup {v : V} {ds : List D} (h : RB K P ι H v (.tup ds)) : ∃ a xs, v = .ref a ∧ SqT K H a xs ∧ RVs K P ι H xs ds := (h.rv (fun _ z => by cases z)).tupO
theorem RB.lst {v : V} {ds : List D} (h : RB K P ι H v (.lst ds)) : ∃ a xs, v = .ref a ∧ H a = some (.lst xs) ∧ RVs K P ι H xs ds := by
  rcases h with h | ⟨a, xs, ds', e1, e, h, r⟩
  · cases h with
    | lst h n r => exact ⟨_, _, rfl, h, r⟩
  · cases e
    exact ⟨a, xs, e1, h, r⟩
theorem RB.scr {v : V} {ns : List Int} (h : RB K P ι H v (.scr ns)) : ∃ a, v = .ref a ∧ SqL K H a (ns.map V.int) := by
  cases h.rv (fun _ z => by cases z) with
  | scrH h n => exact ⟨_, rfl, .inl h⟩
  | scrK h => exact ⟨_, rfl, .inr h⟩
theorem RB.ref {v : V} {k : Nat} (h : RB K P ι H v (.ref k)) : ∃ a, v = .ref a ∧ ι[k]? = some a := by
  cases h.rv (fun _ z => by cases z) with
  | ref h => exact ⟨_, rfl, h⟩
theorem RBs.one {ds : List D} {v : V} (h : RBs K P ι H [v] ds) : ∃ d, ds = [d] ∧ RB K P ι H v d := by
  cases h with
  | cons h t => cases t; exact ⟨_, rfl, h⟩
theorem RBs.two {ds : List D} {v u : V} (h : RBs K P ι H [v, u] ds) : ∃ d e, ds = [d, e] ∧ RB K P ι H v d ∧ RB K P ι H u e := by
  cases h with
  | cons h t => cases t with
    | cons h2 t => cases t; exact ⟨_, _, rfl, h, h2⟩
theorem RBs.three {ds : List D} {v u w : V} (h : RBs K P ι H [v, u, w] ds) : ∃ d e f, ds = [d, e, f] ∧ RB K P ι H v d ∧ RB K P ι H u e ∧ RB K P ι H w f := by
  cases h with
  | cons h t => cases t with
    | cons h2 t => cases t with
      | cons h3 t => cases t; exact ⟨_, _, _, rfl, h, h2, h3⟩
theorem gd_some {α : Type} {c : Bool} {a b : α} (h : gd c a = some b) : c = true ∧ a = b := by
  unfold gd at h
  cases c with
  | true => exact ⟨rfl, Option.some.inj h⟩
  | false => cases h
end
/-- what an operation asks of values: they are such, the answer is this, and what follows -/
def rP (K : PySem.W.Frag) (p : P) : List V → Hp → VK → Prop := fun vs H Q => ∃ Ω ι ow env st σ ds r, Rel K Ω ι ow env st σ H ∧ RBs K (Prot Ω ι ow) ι H vs ds ∧ pfS st p ds = some r ∧ ∀ v H', PostR K Ω ι ow H r env st σ v H' → Q v H'
section
variable {K : PySem.W.Frag} {Ω : Addr → Prop} {ι : List Addr} {ow : Nat → Option Addr} {env : EnvI} {st : Sto} {σ : L2.St} {H : Hp}
theorem post_int (R : Rel K Ω ι ow env st σ H) (i : Int) : PostR K Ω ι ow H (pv (.int i)) env st σ (.int i) H := ⟨ι, ow, .refl, R, .int i⟩
theorem post_bl (R : Rel K Ω ι ow env st σ H) (i : Bool) : PostR K Ω ι ow H (pv (.bl i)) env st σ (.bl i) H := ⟨ι, ow, .refl, R, .bl i⟩
theorem post_str (R : Rel K Ω ι ow env st σ H) (i : Str) : PostR K Ω ι ow H (pv (.str i)) env st σ (.str i) H := ⟨ι, ow, .refl, R, .str i⟩
theorem post_rv (R : Rel K Ω ι ow env st σ H) {d : D} {v : V} (h : RV K (Prot Ω ι ow) ι H v d) : PostR K Ω ι ow H (pv d) env st σ v H := .of_pv ⟨ι, ow, .refl, R, h⟩
theorem Rel.nprot (R : Rel K Ω ι ow env st σ H) {p : Addr} (hp : H p = none) : ¬ Prot Ω ι ow p := fun z => by
  obtain ⟨o, e⟩ := R.prot_trk z
  rw [hp] at e; cases e
theorem tr_new {p : Addr} {o : HO} (hp : H p = none) : Tr (Prot Ω ι ow) (Prot Ω ι ow) ι ι H (upd H p o) := .grow (upd_keep hp) fun _ _ _ z => z
theorem post_tup (R : Rel K Ω ι ow env st σ H) {p : Addr} {xs : List V} {ds : List D} (hp : H p = none) (r : RVs K (Prot Ω ι ow) ι H xs ds) : PostR K Ω ι ow H (pv (.tup ds)) env st σ (.ref p) (upd H p (.tup xs)) :=
  ⟨ι, ow, .grow (upd_keep hp), R.new hp, .tupH upd_same (R.nprot hp) (r.tr (tr_new hp))⟩
theorem post_lst (R : Rel K Ω ι ow env st σ H) {p : Addr} {xs : List V} {ds : List D} (hp : H p = none) (r : RVs K (Prot Ω ι ow) ι H xs ds) : PostR K Ω ι ow H (.lst ds, true) env st σ (.ref p) (upd H p (.lst xs)) :=
  ⟨ι, ow, p, xs, .grow (upd_keep hp), rfl, fun z => R.nprot hp (.inl z), hp, upd_same, R.newp hp, r.tr (.grow (upd_keep hp) fun a o e z => by
    rcases z with (z | z) | z
    · exact .inl z
    · subst z; rw [hp] at e; cases e
    · exact .inr z)⟩
end
section
variable {X : Cx}
theorem mulOk_ok {i j : Int} (h : mulOk i j = true) : IntMulOk i j := by
  have b : ∀ x : Int, Builtin.Int.intBits x ≤ x.natAbs.log2 + 1 := fun x => by
    unfold Builtin.Int.intBits
    split <;> omega
  have h1 := b i
  have h2 := b j
  have h3 : i.natAbs.log2 + j.natAbs.log2 < 134217000 := of_decide_eq_true h
  have e : bitsLine = 134217728 := by decide
  unfold IntMulOk
  intro z
  rw [Bool.and_eq_true] at z
  have z2 := z.2
  unfold Builtin.Int.intTooBig at z2
  have z3 := of_decide_eq_true z2
  rw [e] at z3
  omega
theorem op_mulB : OpR X (binaryOp .Mult) (rI (fun i j => mulOk i j = true) fun i j => .int (i * j)) := opI fun _ _ _ _ _ _ _ hc q => mul_int q (mulOk_ok hc)
theorem op_fdivB : OpR X (binaryOp .FloorDiv) (rI (fun _ j => divOk j = true) fun i j => .int (i / j)) := opI fun i j _ _ _ _ _ hc q => by
  unfold divOk at hc
  rw [Bool.and_eq_true] at hc
  have h1 : (0 : Int) < j := of_decide_eq_true hc.1
  exact floordiv_int (by omega) (by rw [Int.fdiv_eq_ediv_of_nonneg i (by omega)]; exact q) (.inl (PyProof.noPylong_of_log2 (of_decide_eq_true hc.2)))
/-- a binary operation by its rule on ints -/
theorem opr_ints {f : Value → Value → Sem Value} {p : P} {C : Int → Int → Prop} {g : Int → Int → V} (ho : OpR X f (rI C g)) (hp : ∀ st d e r, pfS st p [d, e] = some r → ∃ i j, d = .int i ∧ e = .int j ∧ C i j ∧ ((∃ z, r = pv (.int z) ∧ g i j = .int z) ∨ ∃ z, r = pv (.bl z) ∧ g i j = .bl z)) : OpR X f (fun x y => rP X.K p [x, y]) := by
  intro pins s σ H x y v u Q I rx ry h
  obtain ⟨Ω, ι, ow, env, st, σ', ds, r, R, rb, hpf, q⟩ := h
  obtain ⟨d, e, rfl, bx, by'⟩ := rb.two
  obtain ⟨i, j, rfl, rfl, hc, hg⟩ := hp st d e r hpf
  refine ho pins s σ H x y v u Q I rx ry ⟨i, j, bx.int, by'.int, hc, ?_⟩
  rcases hg with ⟨z, rfl, e⟩ | ⟨z, rfl, e⟩
  · rw [e]; exact q _ _ (post_int R z)
  · rw [e]; exact q _ _ (post_bl R z)
theorem rI_of {g : Int → Int → V} {f : Value → Value → Sem Value} (h : OpR X f (rI0 g)) : OpR X f (rI (fun _ _ => True) g) := fun pins s σ H x y v u Q I rx ry ⟨i, j, a, b, _, c⟩ => h pins s σ H x y v u Q I rx ry ⟨i, j, a, b, c⟩
theorem ifl {α : Type} {c : Bool} {a : α} {r : α} (h : gd c a = some r) : c = true := (gd_some h).1
theorem int2_some {f : Int → Int → Option R} {d e : D} {r : R} (h : int2 f d e = some r) : ∃ i j, d = .int i ∧ e = .int j ∧ f i j = some r := by
  unfold int2 at h
  split at h
  · exact ⟨_, _, rfl, rfl, h⟩
  · cases h
theorem opr_sub : OpR X (binaryOp .Sub) (fun x y => rP X.K .sub [x, y]) := opr_ints (rI_of op_sub) fun st d e r h => by
  obtain ⟨i, j, rfl, rfl, h⟩ := int2_some h
  exact ⟨_, _, rfl, rfl, trivial, .inl ⟨_, (Option.some.inj h).symm, rfl⟩⟩
theorem opr_fdiv : OpR X (binaryOp .FloorDiv) (fun x y => rP X.K .fdiv [x, y]) := opr_ints op_fdivB fun st d e r h => by
  obtain ⟨i, j, rfl, rfl, h⟩ := int2_some h
  obtain ⟨h1, h2⟩ := gd_some h
  exact ⟨_, _, rfl, rfl, h1, .inl ⟨_, h2.symm, rfl⟩⟩
theorem opr_mod : OpR X (binaryOp .Mod) (fun x y => rP X.K .mod [x, y]) := opr_ints op_mod fun st d e r h => by
  obtain ⟨i, j, rfl, rfl, h⟩ := int2_some h
  obtain ⟨h1, h2⟩ := gd_some h
  exact ⟨_, _, rfl, rfl, of_decide_eq_true h1, .inl ⟨_, h2.symm, rfl⟩⟩
theorem pow_ok {i j : Int} (h : powOk i j = true) : CPow i j := by
  unfold powOk at h
  rw [Bool.and_eq_true, Bool.and_eq_true] at h
  exact ⟨of_decide_eq_true h.1.1, of_decide_eq_true h.1.2, of_decide_eq_true h.2⟩
theorem opr_pow : OpR X (binaryOp .Pow) (fun x y => rP X.K .pow [x, y]) := opr_ints op_pow fun st d e r h => by
  obtain ⟨i, j, rfl, rfl, h⟩ := int2_some h
  obtain ⟨h1, h2⟩ := gd_some h
  exact ⟨_, _, rfl, rfl, pow_ok h1, .inl ⟨_, h2.symm, rfl⟩⟩
theorem opr_shl : OpR X (binaryOp .LShift) (fun x y => rP X.K .shl [x, y]) := opr_ints op_shl fun st d e r h => by
  obtain ⟨i, j, rfl, rfl, h⟩ := int2_some h
  obtain ⟨h1, h2⟩ := gd_some h
  exact ⟨_, _, rfl, rfl, pow_ok h1, .inl ⟨_, h2.symm, rfl⟩⟩
theorem opr_shr : OpR X (binaryOp .RShift) (fun x y => rP X.K .shr [x, y]) := opr_ints op_shr fun st d e r h => by
  obtain ⟨i, j, rfl, rfl, h⟩ := int2_some h
  obtain ⟨h1, h2⟩ := gd_some h
  exact ⟨_, _, rfl, rfl, of_decide_eq_true h1, .inl ⟨_, h2.symm, rfl⟩⟩
theorem opr_band : OpR X (binaryOp .BitAnd) (fun x y => rP X.K .band [x, y]) := opr_ints (rI_of op_and) fun st d e r h => by
  obtain ⟨i, j, rfl, rfl, h⟩ := int2_some h
  exact ⟨_, _, rfl, rfl, trivial, .inl ⟨_, (Option.some.inj h).symm, rfl⟩⟩
theorem opr_bor : OpR X (binaryOp .BitOr) (fun x y => rP X.K .bor [x, y]) := opr_ints (rI_of op_or) fun st d e r h => by
  obtain ⟨i, j, rfl, rfl, h⟩ := int2_some h
  exact ⟨_, _, rfl, rfl, trivial, .inl ⟨_, (Option.some.inj h).symm, rfl⟩⟩
theorem opr_bxor : OpR X (binaryOp .BitXor) (fun x y => rP X.K .bxor [x, y]) := opr_ints (rI_of op_xor) fun st d e r h => by
  obtain ⟨i, j, rfl, rfl, h⟩ := int2_some h
  exact ⟨_, _, rfl, rfl, trivial, .inl ⟨_, (Option.some.inj h).symm, rfl⟩⟩
theorem opr_lt : OpR X (compareOp .Lt) (fun x y => rP X.K .lt [x, y]) := opr_ints (rI_of op_lt) fun st d e r h => by
  obtain ⟨i, j, rfl, rfl, h⟩ := int2_some h
  exact ⟨_, _, rfl, rfl, trivial, .inr ⟨_, (Option.some.inj h).symm, rfl⟩⟩
theorem opr_le : OpR X (compareOp .LtE) (fun x y => rP X.K .le [x, y]) := opr_ints (rI_of op_le) fun st d e r h => by
  obtain ⟨i, j, rfl, rfl, h⟩ := int2_some h
  exact ⟨_, _, rfl, rfl, trivial, .inr ⟨_, (Option.some.inj h).symm, rfl⟩⟩
theorem opr_gt : OpR X (compareOp .Gt) (fun x y => rP X.K .gt [x, y]) := opr_ints (rI_of op_gt) fun st d e r h => by
  obtain ⟨i, j, rfl, rfl, h⟩ := int2_some h
  exact ⟨_, _, rfl, rfl, trivial, .inr ⟨_, (Option.some.inj h).symm, rfl⟩⟩
theorem opr_ge : OpR X (compareOp .GtE) (fun x y => rP X.K .ge [x, y]) := opr_ints (rI_of op_ge) fun st d e r h => by
  obtain ⟨i, j, rfl, rfl, h⟩ := int2_some h
  exact ⟨_, _, rfl, rfl, trivial, .inr ⟨_, (Option.some.inj h).symm, rfl⟩⟩
end
end IP

set_option Elab.async false
set_option linter.all false
set_option maxRecDepth 100000
set_option maxHeartbeats 2000000
namespace IP
open PySem PySem.Spec PyProof.Rows L2
section
variable {K : PySem.W.Frag} {P : Addr → Prop} {ι : List Addr} {H : Hp}
/-! ### == -/
mutual
theorem RV.dp : ∀ {v : V} {d : D} {p : PyData}, RV K P ι H v d → toPy d = some p → Dp K H v p
  | _, _, _, .non, e => by cases e; exact .non
  | _, _, _, .bl b, e => by cases e; exact .bl b
  | _, _, _, .int i, e => by cases e; exact .int i
  | _, _, _, .str x, e => by cases e; exact .str x
  | _, _, _, .tupH (ds := ds) h n r, e => by
    have e' : (toPys ds).map PyData.tuple = some _ := e
    obtain ⟨ps, e1, e2⟩ := Option.map_eq_some_iff.mp e'
    subst e2
    exact .tup (.inl (.inl h)) (RVs.dp r e1)
  | _, _, _, .tupK (ds := ds) h r, e => by
    have e' : (toPys ds).map PyData.tuple = some _ := e
    obtain ⟨ps, e1, e2⟩ := Option.map_eq_some_iff.mp e'
    subst e2
    exact .tup (.inr h) (RVs.dp r e1)
  | _, _, _, .lst (ds := ds) h n r, e => by
    have e' : (toPys ds).map PyData.list = some _ := e
    obtain ⟨ps, e1, e2⟩ := Option.map_eq_some_iff.mp e'
    subst e2
    exact .lst (.inl (.inl h)) (RVs.dp r e1)
  | _, _, _, .scrH h n, e => by cases e
  | _, _, _, .scrK h, e => by cases e
  | _, _, _, .ref h, e => by cases e
theorem RVs.dp : ∀ {vs : List V} {ds : List D} {ps : List PyData}, RVs K P ι H vs ds → toPys ds = some ps → DpAll K H vs ps
  | _, _, _, .nil, e => by cases e; exact .nil
  | _, _, _, .cons (d := d) (ds := ds) h r, e => by
    have e' : (match toPy d, toPys ds with | some d, some ds => some (d :: ds) | _, _ => none) = some _ := e
    cases e1 : toPy d with
    | none => rw [e1] at e'; cases e'
    | some p =>
      cases e2 : toPys ds with
      | none => rw [e1, e2] at e'; cases e'
      | some ps =>
        rw [e1, e2] at e'
        cases e'
        exact .cons (RV.dp h e1) (RVs.dp r e2)
end
theorem RB.dp {v : V} {d : D} {p : PyData} (h : RB K P ι H v d) (e : toPy d = some p) : Dp K H v p := by
  rcases h with h | ⟨a, xs, ds, rfl, rfl, h, r⟩
  · exact h.dp e
  · have e' : (toPys ds).map PyData.list = some _ := e
    obtain ⟨ps, e1, e2⟩ := Option.map_eq_some_iff.mp e'
    subst e2
    exact .lst (.inl (.inl h)) (RVs.dp r e1)
/-- what eqD says -/
theorem eqD_cases {x y : D} {b : Bool} (h : eqD x y = some b) : (∃ i j, x = .int i ∧ y = .int j ∧ b = (i == j)) ∨ (∃ i j, x = .str i ∧ y = .str j ∧ b = (i == j)) ∨ (∃ i j, x = .bl i ∧ y = .bl j ∧ b = (i == j)) ∨
    ∃ d e, toPy x = some d ∧ toPy y = some e ∧ SeqAt.shaped d = true ∧ SeqAt.shaped e = true ∧ b = PyData.eqv d e := by
  have gen : ∀ {x y : D}, (match toPy x, toPy y with | some d, some e => gd (SeqAt.shaped d && SeqAt.shaped e) (PyData.eqv d e) | _, _ => none) = some b → ∃ d e, toPy x = some d ∧ toPy y = some e ∧ SeqAt.shaped d = true ∧ SeqAt.shaped e = true ∧ b = PyData.eqv d e := by
    intro x y h
    cases e1 : toPy x with
    | none => rw [e1] at h; cases h
    | some d =>
      cases e2 : toPy y with
      | none => rw [e1, e2] at h; cases h
      | some e =>
        rw [e1, e2] at h
        obtain ⟨h1, h2⟩ := gd_some h
        rw [Bool.and_eq_true] at h1
        exact ⟨d, e, rfl, rfl, h1.1, h1.2, h2.symm⟩
  unfold eqD at h
  split at h
  · exact .inl ⟨_, _, rfl, rfl, (Option.some.inj h).symm⟩
  · exact .inr (.inl ⟨_, _, rfl, rfl, (Option.some.inj h).symm⟩)
  · exact .inr (.inr (.inl ⟨_, _, rfl, rfl, (Option.some.inj h).symm⟩))
  · exact .inr (.inr (.inr (gen h)))
end
section
variable {X : Cx}
theorem opr_eq (hu : X.A.units + 64 < cLine) : OpR X (compareOp .Eq) (fun x y => rP X.K .eq [x, y]) := by
  intro pins s σ H x y v u Q I rx ry h
  obtain ⟨Ω, ι, ow, env, st, σ', ds, r, R, rb, hpf, q⟩ := h
  obtain ⟨d, e, rfl, bx, by'⟩ := rb.two
  have hpf : (eqD d e).map (fun b => pv (.bl b)) = some r := hpf
  obtain ⟨b, hb, rfl⟩ := Option.map_eq_some_iff.mp hpf
  have q' := q _ _ (post_bl R b)
  rcases eqD_cases hb with ⟨i, j, rfl, rfl, rfl⟩ | ⟨i, j, rfl, rfl, rfl⟩ | ⟨i, j, rfl, rfl, rfl⟩ | ⟨pd, pe, e1, e2, s1, s2, rfl⟩
  · rw [bx.int] at rx; rw [by'.int] at ry
    exact op_eq pins s σ H _ _ v u Q I rx ry ⟨rfl, by rw [dec_int]; exact q'⟩
  · rw [bx.str] at rx; rw [by'.str] at ry
    exact op_eq pins s σ H _ _ v u Q I rx ry ⟨rfl, by rw [dec_str]; exact q'⟩
  · rw [bx.bl] at rx; rw [by'.bl] at ry
    exact op_eq pins s σ H _ _ v u Q I rx ry ⟨rfl, by rw [dec_bl]; exact q'⟩
  · exact op_eqD hu pins s σ H x y v u Q I rx ry ⟨pd, pe, bx.dp e1, by'.dp e2, s1, s2, q'⟩
theorem opr_ne (hu : X.A.units + 64 < cLine) : OpR X (compareOp .NotEq) (fun x y => rP X.K .ne [x, y]) := by
  intro pins s σ H x y v u Q I rx ry h
  obtain ⟨Ω, ι, ow, env, st, σ', ds, r, R, rb, hpf, q⟩ := h
  obtain ⟨d, e, rfl, bx, by'⟩ := rb.two
  have hpf : (eqD d e).map (fun b => pv (.bl (!b))) = some r := hpf
  obtain ⟨b, hb, rfl⟩ := Option.map_eq_some_iff.mp hpf
  have q' := q _ _ (post_bl R (!b))
  rcases eqD_cases hb with ⟨i, j, rfl, rfl, rfl⟩ | ⟨i, j, rfl, rfl, rfl⟩ | ⟨i, j, rfl, rfl, rfl⟩ | ⟨pd, pe, e1, e2, s1, s2, rfl⟩
  · rw [bx.int] at rx; rw [by'.int] at ry
    exact op_ne pins s σ H _ _ v u Q I rx ry ⟨rfl, by rw [dec_int]; exact q'⟩
  · rw [bx.str] at rx; rw [by'.str] at ry
    exact op_ne pins s σ H _ _ v u Q I rx ry ⟨rfl, by rw [dec_str]; exact q'⟩
  · rw [bx.bl] at rx; rw [by'.bl] at ry
    exact op_ne pins s σ H _ _ v u Q I rx ry ⟨rfl, by rw [dec_bl]; exact q'⟩
  · exact op_neD hu pins s σ H x y v u Q I rx ry ⟨pd, pe, bx.dp e1, by'.dp e2, s1, s2, q'⟩
/-! ### is -/
theorem is_bool_gen {M : Model} {A : Around} {E : Value → Shared → Prop} {s : Shared} {Q : Value → Shared → Prop} {x : V} {v : Value} {b : Bool} (r : RelV x v) (h : Q (.bool (v == .bool b)) s) : wpAny M A (compareOp .Is v (.bool b)) Q E s := by
  cases x with
  | non => cases r; exact wpAny_pure h
  | bl c => cases r; exact wpAny_pure h
  | int _ => obtain ⟨t, rfl⟩ := r; exact wpAny_pure h
  | str _ => obtain ⟨t, rfl⟩ := r; exact wpAny_pure h
  | byt _ => obtain ⟨t, rfl⟩ := r; exact wpAny_pure h
  | flt _ => obtain ⟨t, rfl⟩ := r; exact wpAny_pure h
  | ref _ => cases r; exact wpAny_pure h
  | ty _ => cases r; exact wpAny_pure h
theorem isnot_bool_gen {M : Model} {A : Around} {E : Value → Shared → Prop} {s : Shared} {Q : Value → Shared → Prop} {x : V} {v : Value} {b : Bool} (r : RelV x v) (h : Q (.bool (!(v == .bool b))) s) : wpAny M A (compareOp .IsNot v (.bool b)) Q E s := by
  cases x with
  | non => cases r; exact wpAny_pure h
  | bl c => cases r; exact wpAny_pure h
  | int _ => obtain ⟨t, rfl⟩ := r; exact wpAny_pure h
  | str _ => obtain ⟨t, rfl⟩ := r; exact wpAny_pure h
  | byt _ => obtain ⟨t, rfl⟩ := r; exact wpAny_pure h
  | flt _ => obtain ⟨t, rfl⟩ := r; exact wpAny_pure h
  | ref _ => cases r; exact wpAny_pure h
  | ty _ => cases r; exact wpAny_pure h
theorem Relv_bool {x : V} {v : Value} (r : RelV x v) (b : Bool) : (v == Value.bool b) = decide (x = .bl b) := by
  cases x with
  | non => cases r; rfl
  | bl c => cases r; cases b <;> cases c <;> rfl
  | int _ => obtain ⟨t, rfl⟩ := r; rfl
  | str _ => obtain ⟨t, rfl⟩ := r; rfl
  | byt _ => obtain ⟨t, rfl⟩ := r; rfl
  | flt _ => obtain ⟨t, rfl⟩ := r; rfl
  | ref _ => cases r; rfl
  | ty _ => cases r; rfl
section
variable {K : PySem.W.Frag} {P : Addr → Prop} {ι : List Addr} {H : Hp}
theorem RB.isN {x : V} {d : D} (h : RB K P ι H x d) : decide (x = .non) = nonD d := by
  rcases h with h | ⟨a, xs, ds, rfl, rfl, h, r⟩
  · cases h <;> first | rfl | exact decide_eq_false (fun z => nomatch z)
  · exact decide_eq_false (fun z => nomatch z)
theorem RB.isB {x : V} {d : D} (h : RB K P ι H x d) (b : Bool) : decide (x = .bl b) = isBD b d := by
  rcases h with h | ⟨a, xs, ds, rfl, rfl, h, r⟩
  · cases h <;> first | (rename_i c; cases b <;> cases c <;> rfl) | rfl | exact decide_eq_false (fun z => nomatch z)
  · exact decide_eq_false (fun z => nomatch z)
end
/-- is None, True, False -/
theorem pe_isP {op : CmpOp} {a b : Expr} {p : P} {ta : TE} {pos : Pos} (hp : isP op b = some p) (ha : PE X a ta) : PE X (.Compare a [op] [b] pos) (fun σ H Q => ta σ H fun x H1 => rP X.K p [x] H1 Q) ∧
    PT X (.Compare a [op] [b] pos) (fun σ H Q => ta σ H fun x H1 => rP X.K p [x] H1 fun y H2 => ∃ c, y = .bl c ∧ Q c H2) := by
  have key : PC X op a b (fun σ H Q => ta σ H fun x H1 => rP X.K p [x] H1 Q) := by
    refine ⟨fun pins s σ H Q I h => ?_⟩
    refine thn (ha.run pins s σ H _ I h) fun v s1 ⟨x, H1, I1, r1, q1⟩ => ?_
    obtain ⟨Ω, ι, ow, env, st, σ', ds, r, R, rb, hpf, q⟩ := q1
    obtain ⟨d, rfl, bx⟩ := rb.one
    unfold isP at hp
    split at hp
    · cases hp
      have hr : r = pv (.bl (nonD d)) := (Option.some.inj hpf).symm
      subst hr
      refine Constant_none (is_none_gen ⟨.bl _, H1, I1, ?_, q _ _ (post_bl R _)⟩)
      rw [r1.none_iff, bx.isN]; rfl
    · cases hp
      have hr : r = pv (.bl (!nonD d)) := (Option.some.inj hpf).symm
      subst hr
      refine Constant_none (isnot_none_gen ⟨.bl _, H1, I1, ?_, q _ _ (post_bl R _)⟩)
      rw [r1.none_iff, bx.isN]
      cases d <;> rfl
    · cases hp
      rename_i b' _ _ _
      have hr : r = pv (.bl (isBD b' d)) := (Option.some.inj hpf).symm
      subst hr
      refine Constant_bool (is_bool_gen r1 ⟨.bl _, H1, I1, ?_, q _ _ (post_bl R _)⟩)
      rw [Relv_bool r1, bx.isB]; rfl
    · cases hp
      rename_i b' _ _ _
      have hr : r = pv (.bl (!isBD b' d)) := (Option.some.inj hpf).symm
      subst hr
      refine Constant_bool (isnot_bool_gen r1 ⟨.bl _, H1, I1, ?_, q _ _ (post_bl R _)⟩)
      rw [Relv_bool r1, bx.isB]
      cases d <;> rfl
    · cases hp
  have hm : behindInMarks op b = false := by
    unfold isP at hp
    split at hp <;> first | rfl | cases hp
  exact ⟨pe_cmp key hm, pt_cmp key hm⟩
end
end IP

set_option Elab.async false
set_option linter.all false
set_option maxRecDepth 100000
set_option maxHeartbeats 4000000
namespace IP
open PySem PySem.Spec PyProof.Rows L2
/-! ### a tuple some times: once, or not at all -/
theorem tupMul_same (l : Addr) (items : Array Value) (n : Nat) (dd : Option Addr) (sl : Array (Option Value)) (x : Int) (u : Tok) (c0 : (decide (x < -(2 ^ 63)) || decide (x ≥ 2 ^ 63)) = false) (c1 : (items.isEmpty || x == 1) = true) :
    Meets (Builtin.«tuple.__mul__» ⟨[.ref l, .int x u], []⟩) (fun _ R s => s.heap.get? l = some { cls := .type "tuple", dict := dd, data := .seq items n, slots := sl } ∧ R (.ok (.ret (Value.ref l))) s) :=
  .of_wp fun prog w A R s h => by
    obtain ⟨hp, g, d, tk, os⟩ := s
    obtain ⟨hl, h⟩ := h
    have f1 := AutoSeq1.idx_int
    wp_walk using wpAny_loadPart' hl
    refine wpAny_ite_false (decide_eq_false (by rw [c0]; exact Bool.false_ne_true)) ?_
    wp_walk using wpAny_loadPart' hl
    exact ⟨_, rfl, h⟩
theorem tupMul_none (l : Addr) (items : Array Value) (n : Nat) (dd : Option Addr) (sl : Array (Option Value)) (x : Int) (u : Tok) (c0 : (decide (x < -(2 ^ 63)) || decide (x ≥ 2 ^ 63)) = false) (c1 : (items.isEmpty || x == 1) = false) (c2 : (decide (x ≤ 0) || items.isEmpty) = true) :
    Meets (Builtin.«tuple.__mul__» ⟨[.ref l, .int x u], []⟩) (fun _ R s => s.heap.get? l = some { cls := .type "tuple", dict := dd, data := .seq items n, slots := sl } ∧
      R (.ok (.ret (Value.ref s.heap.objs.size))) { s with heap := s.heap.push { cls := Value.type "tuple", data := Data.seq #[] }, toks := s.toks }) :=
  .of_wp fun prog w A R s h => by
    obtain ⟨hp, g, d, tk, os⟩ := s
    obtain ⟨hl, h⟩ := h
    have f1 := AutoSeq1.idx_int
    wp_walk using wpAny_loadPart' hl
    refine wpAny_ite_false (decide_eq_false (by rw [c0]; exact Bool.false_ne_true)) ?_
    wp_walk using wpAny_loadPart' hl
    exact ⟨_, rfl, h⟩
/-- t * k, whatever k is -/
def rRepA (K : PySem.W.Frag) : R2 := fun x y H Q => ∃ l k xs, x = .ref l ∧ y = .int k ∧ SqT K H l xs ∧ -1000 ≤ k ∧ k ≤ 1000 ∧ xs.length ≤ 1000 ∧ ((xs = [] ∨ k = 1) → Q (.ref l) H) ∧ ∀ p, H p = none → Q (.ref p) (upd H p (.tup (List.replicate k.toNat xs).flatten))
theorem op_repA {X : Cx} : OpR X (binaryOp .Mult) (rRepA X.K) := by
  intro pins s σ H x y v u Q I rx ry h
  obtain ⟨l, k, xs, ex, ey, hT, h1, h2, hz, qs, q⟩ := h
  by_cases hne : xs = []
  · subst hne
    subst ex ey
    cases rx
    obtain ⟨t, rfl⟩ := ry
    obtain ⟨its, r, ⟨⟨cls, dd, data, sl⟩, ho, hc, n, hd⟩, hs⟩ := I.tuple hT
    simp only at hc hd
    subst hc hd
    have e0 : its = [] := List.eq_nil_of_length_eq_zero r.length.symm
    subst e0
    have c0 : (decide (k < -(2 ^ 63)) || decide (k ≥ 2 ^ 63)) = false := by
      rw [decide_eq_false (show ¬ k < -(2 ^ 63) by omega), decide_eq_false (show ¬ k ≥ 2 ^ 63 by omega)] <;> rfl
    exact wpAny_binaryOp_repeat_ref (T := "tuple") (U := "int") (by decide) ⟨_, ho, rfl⟩ (fun s' => typeIs_int s' k t) noFill_tuple_mul F.fills_int_mul F.slot_int_rmul repeat_tuple F.slot_int_index.lookup
      (call_meets F.slot_int_rmul (typeIs_int s k t) F.entry_int_rmul (F.args_int_rmul_2 _ _) (int_rmul_tuple k t l [].toArray n dd sl)
        ⟨ho, rfl, ⟨_, ho, rfl⟩, call_meets F.slot_tuple_mul ⟨_, ho, rfl⟩ F.entry_tuple_mul (F.args_tuple_mul_2 _ _) (tupMul_same l [].toArray n dd sl k t c0 rfl) ⟨ho, .ref l, H, I, rfl, qs (.inl rfl)⟩⟩)
  · by_cases h3 : 2 ≤ k
    · exact op_repT pins s σ H x y v u Q I rx ry ⟨l, k, xs, ex, ey, hT, hne, h3, h2, hz, q⟩
    · subst ex ey
      cases rx
      obtain ⟨t, rfl⟩ := ry
      obtain ⟨its, r, ⟨⟨cls, dd, data, sl⟩, ho, hc, n, hd⟩, hs⟩ := I.tuple hT
      simp only at hc hd
      subst hc hd
      have hi : its.toArray.isEmpty = false := by
        cases its with
        | nil => exact absurd (List.eq_nil_of_length_eq_zero r.length) hne
        | cons a b => rfl
      have c0 : (decide (k < -(2 ^ 63)) || decide (k ≥ 2 ^ 63)) = false := by
        rw [decide_eq_false (show ¬ k < -(2 ^ 63) by omega), decide_eq_false (show ¬ k ≥ 2 ^ 63 by omega)] <;> rfl
      by_cases h4 : k = 1
      · have c1 : (its.toArray.isEmpty || k == 1) = true := by rw [h4, Bool.or_eq_true]; exact .inr (by decide)
        exact wpAny_binaryOp_repeat_ref (T := "tuple") (U := "int") (by decide) ⟨_, ho, rfl⟩ (fun s' => typeIs_int s' k t) noFill_tuple_mul F.fills_int_mul F.slot_int_rmul repeat_tuple F.slot_int_index.lookup
          (call_meets F.slot_int_rmul (typeIs_int s k t) F.entry_int_rmul (F.args_int_rmul_2 _ _) (int_rmul_tuple k t l its.toArray n dd sl)
            ⟨ho, rfl, ⟨_, ho, rfl⟩, call_meets F.slot_tuple_mul ⟨_, ho, rfl⟩ F.entry_tuple_mul (F.args_tuple_mul_2 _ _) (tupMul_same l its.toArray n dd sl k t c0 c1) ⟨ho, .ref l, H, I, rfl, qs (.inr h4)⟩⟩)
      · have c1 : (its.toArray.isEmpty || k == 1) = false := by
          rw [hi, Bool.false_or]
          exact beq_eq_false_iff_ne.mpr h4
        have c2 : (decide (k ≤ 0) || its.toArray.isEmpty) = true := by rw [Bool.or_eq_true]; exact .inl (decide_eq_true (by omega))
        have e0 : (List.replicate k.toNat xs).flatten = [] := by rw [show k.toNat = 0 by omega]; rfl
        rw [e0] at q
        refine wpAny_binaryOp_repeat_ref (T := "tuple") (U := "int") (by decide) ⟨_, ho, rfl⟩ (fun s' => typeIs_int s' k t) noFill_tuple_mul F.fills_int_mul F.slot_int_rmul repeat_tuple F.slot_int_index.lookup
          (call_meets F.slot_int_rmul (typeIs_int s k t) F.entry_int_rmul (F.args_int_rmul_2 _ _) (int_rmul_tuple k t l its.toArray n dd sl)
            ⟨ho, rfl, ⟨_, ho, rfl⟩, call_meets F.slot_tuple_mul ⟨_, ho, rfl⟩ F.entry_tuple_mul (F.args_tuple_mul_2 _ _) (tupMul_none l its.toArray n dd sl k t c0 c1 c2) ⟨ho, ?_⟩⟩)
        refine ⟨.ref s.heap.objs.size, _, I.laid (t' := s.toks) (o := .tup []) (fun b ob q => Heap.get?_push_of_some _ q) (Nat.le_refl _) ?_, rfl, q _ (I.hok.fresh (Nat.le_refl _))⟩
        exact ⟨Nat.zero_le _, [], .nil, IsTup.new _ _⟩
end IP

set_option Elab.async false
set_option linter.all false
set_option maxRecDepth 100000
set_option maxHeartbeats 2000000
namespace IP
open PySem PySem.Spec PyProof.Rows L2
section
variable {K : PySem.W.Frag} {P : Addr → Prop} {ι : List Addr} {H : Hp}
theorem add2_cases {d e : D} {r : R} (h : add2 d e = some r) : (∃ i j, d = .int i ∧ e = .int j ∧ r = pv (.int (i + j))) ∨ (∃ i j, d = .str i ∧ e = .str j ∧ lineOk (i.length + j.length) = true ∧ r = pv (.str (i ++ j))) ∨
    (∃ i j, d = .tup i ∧ e = .tup j ∧ lineOk (i.length + j.length) = true ∧ r = pv (.tup (i ++ j))) ∨ ∃ i j, d = .lst i ∧ e = .lst j ∧ lineOk (i.length + j.length) = true ∧ r = (.lst (i ++ j), true) := by
  unfold add2 at h
  split at h
  · exact .inl ⟨_, _, rfl, rfl, (Option.some.inj h).symm⟩
  · obtain ⟨h1, h2⟩ := gd_some h
    exact .inr (.inl ⟨_, _, rfl, rfl, h1, h2.symm⟩)
  · obtain ⟨h1, h2⟩ := gd_some h
    exact .inr (.inr (.inl ⟨_, _, rfl, rfl, h1, h2.symm⟩))
  · obtain ⟨h1, h2⟩ := gd_some h
    exact .inr (.inr (.inr ⟨_, _, rfl, rfl, h1, h2.symm⟩))
  · cases h
theorem mul2_cases {d e : D} {r : R} (h : mul2 d e = some r) : (∃ i j, d = .int i ∧ e = .int j ∧ mulOk i j = true ∧ r = pv (.int (i * j))) ∨ (∃ i j, d = .lst i ∧ e = .int j ∧ -1000000 ≤ j ∧ j ≤ 1000000 ∧ lineOk (i.length * j.toNat) = true ∧ r = (.lst (List.replicate j.toNat i).flatten, true)) ∨
    ∃ i j, d = .tup i ∧ e = .int j ∧ -1000 ≤ j ∧ j ≤ 1000 ∧ i.length ≤ 1000 ∧ r = pv (.tup (List.replicate j.toNat i).flatten) := by
  unfold mul2 at h
  split at h
  · obtain ⟨h1, h2⟩ := gd_some h
    exact .inl ⟨_, _, rfl, rfl, h1, h2.symm⟩
  · obtain ⟨h1, h2⟩ := gd_some h
    rw [Bool.and_eq_true, Bool.and_eq_true] at h1
    exact .inr (.inl ⟨_, _, rfl, rfl, of_decide_eq_true h1.1.1, of_decide_eq_true h1.1.2, h1.2, h2.symm⟩)
  · obtain ⟨h1, h2⟩ := gd_some h
    rw [Bool.and_eq_true, Bool.and_eq_true] at h1
    exact .inr (.inr ⟨_, _, rfl, rfl, of_decide_eq_true h1.1.1, of_decide_eq_true h1.1.2, of_decide_eq_true h1.2, h2.symm⟩)
  · cases h
theorem RV.flat {v : V} {d : D} (h : RV K P ι H v d) (f : flatD d = true) : flatV v = true := by
  cases h <;> first | rfl | cases f
theorem RB.flat {v : V} {d : D} (h : RB K P ι H v d) (f : flatD d = true) : RV K P ι H v d := h.rv fun ds z => by subst z; cases f
theorem RVs.flat : ∀ {vs : List V} {ds : List D}, RVs K P ι H vs ds → ds.all flatD = true → vs.all flatV = true
  | _, _, .nil, _ => rfl
  | _, _, .cons h r, f => by
    rw [List.all_cons, Bool.and_eq_true] at f ⊢
    exact ⟨h.flat f.1, RVs.flat r f.2⟩
theorem eqF_V {x y : V} {d e : D} (h1 : RV K P ι H x d) (h2 : RV K P ι H y e) (f : flatD d = true) (g : flatD e = true) : eqV x y = eqF d e := by
  cases h1 <;> cases h2 <;> first | rfl | cases f | cases g
theorem inV_D {x : V} {d : D} (h : RV K P ι H x d) (f : flatD d = true) : ∀ {vs : List V} {ds : List D}, RVs K P ι H vs ds → ds.all flatD = true → inV x vs = ds.any fun y => eqF y d
  | _, _, .nil, _ => rfl
  | _, _, .cons h1 r, g => by
    rw [List.all_cons, Bool.and_eq_true] at g
    show List.any _ _ = _
    rw [List.any_cons, List.any_cons, eqF_V h1 h g.1 f]
    exact congrArg _ (inV_D h f r g.2)
theorem RVs.at {vs : List V} {ds : List D} {i : Int} {d : D} (r : RVs K P ι H vs ds) (h : atD ds i = some d) : ∃ v, atI vs i = some v ∧ RV K P ι H v d := by
  unfold atD atI at h
  unfold atI
  rw [r.length]
  obtain ⟨j, h1, h2⟩ := Option.bind_eq_some_iff.mp h
  obtain ⟨v, h3, h4⟩ := r.get h2
  exact ⟨v, by rw [h1]; exact h3, h4⟩
theorem RVs.cut {vs : List V} {ds : List D} (r : RVs K P ι H vs ds) (lo hi : Option Int) : RVs K P ι H (cutV vs lo hi) (cutD ds lo hi) := by
  unfold cutV cutD
  rw [r.length]
  exact (r.drop _).take _
theorem RVs.bls : ∀ {ds : List D} {vs : List V} {bs : List Bool}, RVs K P ι H vs ds → blsD ds = some bs → vs = bs.map V.bl
  | [], _, _, .nil, e => by cases e; rfl
  | .bl b :: ds, _, _, .cons h r, e => by
    cases h
    have e' : (blsD ds).map (b :: ·) = some _ := e
    obtain ⟨cs, h1, rfl⟩ := Option.map_eq_some_iff.mp e'
    rw [RVs.bls r h1]; rfl
  | .non :: _, _, _, _, e => by cases e
  | .int _ :: _, _, _, _, e => by cases e
  | .str _ :: _, _, _, _, e => by cases e
  | .tup _ :: _, _, _, _, e => by cases e
  | .lst _ :: _, _, _, _, e => by cases e
  | .scr _ :: _, _, _, _, e => by cases e
  | .ref _ :: _, _, _, _, e => by cases e
  | .dct _ _ :: _, _, _, _, e => by cases e
theorem RVs.intsD : ∀ {ds : List D} {vs : List V} {is : List Int}, RVs K P ι H vs ds → intsD ds = some is → vs = is.map V.int
  | [], _, _, .nil, e => by cases e; rfl
  | .int b :: ds, _, _, .cons h r, e => by
    cases h
    have e' : (IP.intsD ds).map (b :: ·) = some _ := e
    obtain ⟨cs, h1, rfl⟩ := Option.map_eq_some_iff.mp e'
    rw [RVs.intsD r h1]; rfl
  | .non :: _, _, _, _, e => by cases e
  | .bl _ :: _, _, _, _, e => by cases e
  | .str _ :: _, _, _, _, e => by cases e
  | .tup _ :: _, _, _, _, e => by cases e
  | .lst _ :: _, _, _, _, e => by cases e
  | .scr _ :: _, _, _, _, e => by cases e
  | .ref _ :: _, _, _, _, e => by cases e
  | .dct _ _ :: _, _, _, _, e => by cases e
theorem line_ok {n : Nat} (h : lineOk n = true) : n ≤ sizeLine := by
  rw [sizeLine_eq]
  exact of_decide_eq_true h
end
section
variable {X : Cx}
theorem opr_add : OpR X (binaryOp .Add) (fun x y => rP X.K .add [x, y]) := by
  intro pins s σ H x y v u Q I rx ry h
  obtain ⟨Ω, ι, ow, env, st, σ', ds, r, R, rb, hpf, q⟩ := h
  obtain ⟨d, e, rfl, bx, by'⟩ := rb.two
  rcases add2_cases (show add2 d e = some r from hpf) with ⟨i, j, rfl, rfl, rfl⟩ | ⟨i, j, rfl, rfl, hz, rfl⟩ | ⟨i, j, rfl, rfl, hz, rfl⟩ | ⟨i, j, rfl, rfl, hz, rfl⟩
  · exact op_add pins s σ H x y v u Q I rx ry ⟨i, j, bx.int, by'.int, q _ _ (post_int R _)⟩
  · exact op_add_str pins s σ H x y v u Q I rx ry ⟨i, j, bx.str, by'.str, line_ok hz, q _ _ (post_str R _)⟩
  · obtain ⟨a, xs, e1, hs, rs⟩ := bx.tup
    obtain ⟨b, ys, e2, ht, rt⟩ := by'.tup
    have rvx := bx.rv (fun _ z => by cases z)
    have rvy := by'.rv (fun _ z => by cases z)
    refine op_catA pins s σ H x y v u Q I rx ry ⟨a, b, xs, ys, e1, e2, hs, ht, by rw [rs.length, rt.length]; exact line_ok hz, fun z => ?_, fun z1 z => ?_, fun z1 z2 p hp => ?_⟩
    · subst z
      cases rs
      rw [← e2]
      exact q _ _ (post_rv R rvy)
    · subst z
      cases rt
      rw [List.append_nil] at q
      rw [← e1]
      exact q _ _ (post_rv R rvx)
    · exact q _ _ (post_tup R hp (rs.append rt))
  · obtain ⟨a, xs, e1, hs, rs⟩ := bx.lst
    obtain ⟨b, ys, e2, ht, rt⟩ := by'.lst
    exact op_cat pins s σ H x y v u Q I rx ry ⟨a, b, xs, ys, e1, e2, hs, ht, by rw [rs.length, rt.length]; exact line_ok hz, fun p hp => q _ _ (post_lst R hp (rs.append rt))⟩
theorem opr_mul : OpR X (binaryOp .Mult) (fun x y => rP X.K .mul [x, y]) := by
  intro pins s σ H x y v u Q I rx ry h
  obtain ⟨Ω, ι, ow, env, st, σ', ds, r, R, rb, hpf, q⟩ := h
  obtain ⟨d, e, rfl, bx, by'⟩ := rb.two
  rcases mul2_cases (show mul2 d e = some r from hpf) with ⟨i, j, rfl, rfl, hz, rfl⟩ | ⟨i, j, rfl, rfl, z1, z2, hz, rfl⟩ | ⟨i, j, rfl, rfl, z1, z2, hz, rfl⟩
  · exact op_mulB pins s σ H x y v u Q I rx ry ⟨i, j, bx.int, by'.int, hz, q _ _ (post_int R _)⟩
  · obtain ⟨a, xs, e1, hs, rs⟩ := bx.lst
    exact op_rep pins s σ H x y v u Q I rx ry ⟨a, j, xs, e1, by'.int, hs, by omega, by omega, by rw [rs.length]; exact line_ok hz, fun p hp => q _ _ (post_lst R hp (rs.rep _))⟩
  · have rvx := bx.rv (fun _ z => by cases z)
    obtain ⟨a, xs, e1, hs, rs⟩ := bx.tup
    refine op_repA pins s σ H x y v u Q I rx ry ⟨a, j, xs, e1, by'.int, hs, z1, z2, by rw [rs.length]; exact hz, fun z => ?_, fun p hp => q _ _ (post_tup R hp (rs.rep _))⟩
    have e2 : (List.replicate j.toNat i).flatten = i := by
      rcases z with z | z
      · subst z
        cases rs
        generalize j.toNat = n
        induction n with
        | zero => rfl
        | succ n ih => rw [List.replicate_succ, List.flatten_cons, ih]; rfl
      · rw [z]
        show i ++ [] = i
        rw [List.append_nil]
    rw [e2] at q
    rw [← e1]
    exact q _ _ (post_rv R rvx)
theorem inD_cases {d e : D} {b : Bool} (h : inD d e = some b) : ∃ ys, (e = .lst ys ∨ e = .tup ys) ∧ flatD d = true ∧ ys.all flatD = true ∧ b = ys.any fun y => eqF y d := by
  unfold inD at h
  split at h
  · obtain ⟨h1, h2⟩ := gd_some h
    rw [Bool.and_eq_true] at h1
    exact ⟨_, .inl rfl, h1.1, h1.2, h2.symm⟩
  · obtain ⟨h1, h2⟩ := gd_some h
    rw [Bool.and_eq_true] at h1
    exact ⟨_, .inr rfl, h1.1, h1.2, h2.symm⟩
  · cases h
theorem opr_in : OpR X (compareOp .In) (fun x y => rP X.K .inn [x, y]) := by
  intro pins s σ H x y v u Q I rx ry h
  obtain ⟨Ω, ι, ow, env, st, σ', ds, r, R, rb, hpf, q⟩ := h
  obtain ⟨d, e, rfl, bx, by'⟩ := rb.two
  have hpf : (inD d e).map (fun b => pv (.bl b)) = some r := hpf
  obtain ⟨b, hb, rfl⟩ := Option.map_eq_some_iff.mp hpf
  obtain ⟨ys, hy, f1, f2, rfl⟩ := inD_cases hb
  have rvx := bx.flat f1
  have hh : ∃ p xs, y = .ref p ∧ (SqL X.K H p xs ∨ SqT X.K H p xs) ∧ RVs X.K (Prot Ω ι ow) ι H xs ys := by
    rcases hy with rfl | rfl
    · obtain ⟨a, xs, e1, hs, rs⟩ := by'.lst
      exact ⟨a, xs, e1, .inl (.of hs), rs⟩
    · obtain ⟨a, xs, e1, hs, rs⟩ := by'.tup
      exact ⟨a, xs, e1, .inr hs, rs⟩
  obtain ⟨p, xs, e1, hs, rs⟩ := hh
  refine op_in_seq pins s σ H x y v u Q I rx ry ⟨p, xs, e1, hs, rvx.flat f1, rs.flat f2, ?_⟩
  rw [if_neg (by decide), inV_D rvx f1 rs f2]
  exact q _ _ (post_bl R _)
theorem opr_nin : OpR X (compareOp .NotIn) (fun x y => rP X.K .nin [x, y]) := by
  intro pins s σ H x y v u Q I rx ry h
  obtain ⟨Ω, ι, ow, env, st, σ', ds, r, R, rb, hpf, q⟩ := h
  obtain ⟨d, e, rfl, bx, by'⟩ := rb.two
  have hpf : (inD d e).map (fun b => pv (.bl (!b))) = some r := hpf
  obtain ⟨b, hb, rfl⟩ := Option.map_eq_some_iff.mp hpf
  obtain ⟨ys, hy, f1, f2, rfl⟩ := inD_cases hb
  have rvx := bx.flat f1
  have hh : ∃ p xs, y = .ref p ∧ (SqL X.K H p xs ∨ SqT X.K H p xs) ∧ RVs X.K (Prot Ω ι ow) ι H xs ys := by
    rcases hy with rfl | rfl
    · obtain ⟨a, xs, e1, hs, rs⟩ := by'.lst
      exact ⟨a, xs, e1, .inl (.of hs), rs⟩
    · obtain ⟨a, xs, e1, hs, rs⟩ := by'.tup
      exact ⟨a, xs, e1, .inr hs, rs⟩
  obtain ⟨p, xs, e1, hs, rs⟩ := hh
  refine op_notIn_seq pins s σ H x y v u Q I rx ry ⟨p, xs, e1, hs, rvx.flat f1, rs.flat f2, ?_⟩
  rw [if_pos rfl, inV_D rvx f1 rs f2]
  exact q _ _ (post_bl R _)
/-! ### one place -/
theorem int1_some {f : Int → Int} {d : D} {r : R} (h : int1 f d = some r) : ∃ i, d = .int i ∧ r = pv (.int (f i)) := by
  unfold int1 at h
  split at h
  · exact ⟨_, rfl, (Option.some.inj h).symm⟩
  · cases h
theorem unr_neg : UnR X (unaryOp .USub) (fun x => rP X.K .neg [x]) := by
  intro pins s σ H x v Q I rx h
  obtain ⟨Ω, ι, ow, env, st, σ', ds, r, R, rb, hpf, q⟩ := h
  obtain ⟨d, rfl, bx⟩ := rb.one
  obtain ⟨i, rfl, rfl⟩ := int1_some (show int1 (fun i => -i) d = some r from hpf)
  exact un_neg pins s σ H x v Q I rx ⟨i, bx.int, q _ _ (post_int R _)⟩
theorem unr_inv : UnR X (unaryOp .Invert) (fun x => rP X.K .inv [x]) := by
  intro pins s σ H x v Q I rx h
  obtain ⟨Ω, ι, ow, env, st, σ', ds, r, R, rb, hpf, q⟩ := h
  obtain ⟨d, rfl, bx⟩ := rb.one
  obtain ⟨i, rfl, rfl⟩ := int1_some (show int1 Builtin.bitNot d = some r from hpf)
  exact un_inv pins s σ H x v Q I rx ⟨i, bx.int, q _ _ (post_int R _)⟩
theorem lstB_some {o : Option Bx} {xs : List D} (h : lstB o = some xs) : o = some (.lst xs) := by
  unfold lstB at h
  split at h
  · cases h; rfl
  · cases h
theorem idx2_cases {st : Sto} {d e : D} {r : R} (h : idx2 st d e = some r) : ∃ xs i z, (d = .lst xs ∨ d = .tup xs ∨ ∃ k, d = .ref k ∧ st[k]? = some (.lst xs)) ∧ e = .int i ∧ atD xs i = some z ∧ r = pv z := by
  unfold idx2 at h
  split at h
  · obtain ⟨z, h1, h2⟩ := Option.map_eq_some_iff.mp h
    exact ⟨_, _, z, .inl rfl, rfl, h1, h2.symm⟩
  · obtain ⟨z, h1, h2⟩ := Option.map_eq_some_iff.mp h
    exact ⟨_, _, z, .inr (.inl rfl), rfl, h1, h2.symm⟩
  · obtain ⟨xs, h0, h⟩ := Option.bind_eq_some_iff.mp h
    obtain ⟨z, h1, h2⟩ := Option.map_eq_some_iff.mp h
    exact ⟨_, _, z, .inr (.inr ⟨_, rfl, lstB_some h0⟩), rfl, h1, h2.symm⟩
  · cases h
/-- a list, a tuple or a boxed list -/
theorem seq_of {K : PySem.W.Frag} {Ω : Addr → Prop} {ι : List Addr} {ow : Nat → Option Addr} {env : EnvI} {st : Sto} {σ : L2.St} {H : Hp} {x : V} {d : D} {xs : List D} (R : Rel K Ω ι ow env st σ H) (bx : RB K (Prot Ω ι ow) ι H x d) (h : d = .lst xs ∨ d = .tup xs ∨ ∃ k, d = .ref k ∧ st[k]? = some (.lst xs)) :
    ∃ p vs, x = .ref p ∧ (SqL K H p vs ∨ SqT K H p vs) ∧ RVs K (Prot Ω ι ow) ι H vs xs := by
  rcases h with rfl | rfl | ⟨k, rfl, hk⟩
  · obtain ⟨a, xs, e1, hs, rs⟩ := bx.lst
    exact ⟨a, xs, e1, .inl (.of hs), rs⟩
  · obtain ⟨a, xs, e1, hs, rs⟩ := bx.tup
    exact ⟨a, xs, e1, .inr hs, rs⟩
  · obtain ⟨a, e1, hi⟩ := bx.ref
    obtain ⟨a', h1, h2⟩ := R.boxs k _ hk
    rw [hi] at h1; cases h1
    cases h2 with
    | lst h2 h3 => exact ⟨a, _, e1, .inl (.of h2), h3⟩
theorem ixr_idx : IxR X (fun x y => rP X.K .idx [x, y]) := by
  intro value slice pins s σ H x y v u Q I rx ry h hs
  obtain ⟨Ω, ι, ow, env, st, σ', ds, r, R, rb, hpf, q⟩ := h
  obtain ⟨d, e, rfl, bx, by'⟩ := rb.two
  obtain ⟨xs, i, z, hd, rfl, ha, rfl⟩ := idx2_cases (show idx2 st d e = some r from hpf)
  obtain ⟨p, vs, e1, hp, rs⟩ := seq_of R bx hd
  obtain ⟨w, h1, h2⟩ := rs.at ha
  refine ix_seq value slice pins s σ H x y v u Q I rx ry ?_ hs
  rcases hp with hp | hp
  · exact .inl ⟨p, vs, i, w, e1, by'.int, hp, h1, q _ _ (post_rv R h2)⟩
  · exact .inr (.inl ⟨p, vs, i, w, e1, by'.int, hp, h1, q _ _ (post_rv R h2)⟩)
/-! ### slices -/
def rSlD (K : PySem.W.Frag) : V → Option Int → Option Int → Hp → VK → Prop := fun x lo hi H Q => ∃ Ω ι ow env st σ d r, Rel K Ω ι ow env st σ H ∧ RB K (Prot Ω ι ow) ι H x d ∧ slcD lo hi d = some r ∧ ∀ v H', PostR K Ω ι ow H r env st σ v H' → Q v H'
theorem slr_D : SlR X (rSlD X.K) := by
  intro pins s σ H x v vl vu lo hi sl Q I rx hsl pl pu h
  obtain ⟨Ω, ι, ow, env, st, σ', d, r, R, bx, hd, q⟩ := h
  unfold slcD at hd
  split at hd
  · cases hd
    obtain ⟨a, xs, e1, hs, rs⟩ := bx.lst
    exact sl_list pins s σ H x v vl vu lo hi sl Q I rx hsl pl pu ⟨a, xs, e1, .of hs, fun p hp => q _ _ (post_lst R hp (rs.cut lo hi))⟩
  · cases hd
    obtain ⟨a, xs, e1, hs, rs⟩ := bx.tup
    refine sl_tupA pins s σ H x v vl vu lo hi sl Q I rx hsl pl pu ⟨a, xs, e1, hs, fun z => ?_, fun z p hp => q _ _ (post_tup R hp (rs.cut lo hi))⟩
    have rvx := bx.rv (fun _ z => by cases z)
    rename_i ys
    have e2 : cutD ys lo hi = ys := by
      unfold cutD
      rw [← rs.length, z.1, z.2]
      simp [rs.length]
    rw [e2] at q
    rw [← e1]
    exact q _ _ (post_rv R rvx)
  · cases hd
    obtain ⟨a, e1, hs⟩ := bx.scr
    exact sl_list pins s σ H x v vl vu lo hi sl Q I rx hsl pl pu ⟨a, _, e1, hs, fun p hp => q _ _ (post_lst R hp ((RVs.ints _).cut lo hi))⟩
  · cases hd
/-! ### calls of built-ins -/
theorem len1_cases {st : Sto} {d : D} {r : R} (hs : ∀ x, d ≠ .str x) (h : len1 st d = some r) : ∃ xs, (d = .lst xs ∨ d = .tup xs ∨ ∃ k, d = .ref k ∧ st[k]? = some (.lst xs)) ∧ r = pv (.int xs.length) := by
  unfold len1 at h
  split at h
  · exact ⟨_, .inl rfl, (Option.some.inj h).symm⟩
  · exact ⟨_, .inr (.inl rfl), (Option.some.inj h).symm⟩
  · exact absurd rfl (hs _)
  · obtain ⟨xs, h0, h⟩ := Option.map_eq_some_iff.mp h
    exact ⟨xs, .inr (.inr ⟨_, rfl, lstB_some h0⟩), h.symm⟩
  · cases h
theorem rP_one {K : PySem.W.Frag} {p : P} {xs : List V} {H : Hp} {Q : VK} (h : rP K p xs H Q) (hl : xs.length = 1) : ∃ x, xs = [x] ∧ ∃ Ω ι ow env st σ d r, Rel K Ω ι ow env st σ H ∧ RB K (Prot Ω ι ow) ι H x d ∧ pf1 st p d = some r ∧ ∀ v H', PostR K Ω ι ow H r env st σ v H' → Q v H' := by
  obtain ⟨Ω, ι, ow, env, st, σ', ds, r, R, rb, hpf, q⟩ := h
  match xs, hl with
  | [x], _ =>
    obtain ⟨d, rfl, bx⟩ := rb.one
    exact ⟨x, rfl, Ω, ι, ow, env, st, σ', d, r, R, bx, hpf, q⟩
def rP1 (K : PySem.W.Frag) (p : P) : List V → Hp → VK → Prop := fun xs H Q => xs.length = 1 ∧ rP K p xs H Q
theorem callr_len : CallR X (.builtin "len") (rP1 X.K .len) := by
  intro pins s σ H xs us Q I rx ⟨hl, h⟩
  obtain ⟨x, rfl, Ω, ι, ow, env, st, σ', d, r, R, bx, hpf, q⟩ := rP_one h hl
  by_cases hx : ∃ x, d = .str x
  · obtain ⟨x, rfl⟩ := hx
    obtain ⟨hz, rfl⟩ := gd_some (show gd (lineOk x.length) (pv (.int x.length)) = some r from hpf)
    have e := bx.str
    subst e
    exact call_len pins s σ H _ us Q I rx ⟨_, x.length, rfl, ⟨of_decide_eq_true hz, rfl⟩, q _ _ (post_int R _)⟩
  obtain ⟨ys, hd, rfl⟩ := len1_cases (fun x z => hx ⟨x, z⟩) (show len1 st d = some r from hpf)
  obtain ⟨p, vs, e1, hp, rs⟩ := seq_of R bx hd
  refine call_len_seq pins s σ H [x] us Q I rx ⟨p, vs, by rw [e1], hp, ?_⟩
  rw [rs.length]
  exact q _ _ (post_int R _)
theorem callr_abs : CallR X (.builtin "abs") (rP1 X.K .abs) := by
  intro pins s σ H xs us Q I rx ⟨hl, h⟩
  obtain ⟨x, rfl, Ω, ι, ow, env, st, σ', d, r, R, bx, hpf, q⟩ := rP_one h hl
  obtain ⟨i, rfl, rfl⟩ := int1_some (show int1 (fun i => if i < 0 then -i else i) d = some r from hpf)
  exact call_abs pins s σ H [x] us Q I rx ⟨i, by rw [bx.int], q _ _ (post_int R _)⟩
theorem callr_str : CallR X (.type "str") (rP1 X.K .str) := by
  intro pins s σ H xs us Q I rx ⟨hl, h⟩
  obtain ⟨x, rfl, Ω, ι, ow, env, st, σ', d, r, R, bx, hpf, q⟩ := rP_one h hl
  have hpf : str1 d = some r := hpf
  unfold str1 at hpf
  split at hpf
  · rename_i i
    obtain ⟨hz, rfl⟩ := gd_some hpf
    exact call_str_int pins s σ H [x] us Q I rx ⟨_, by rw [bx.int], of_decide_eq_true hz, q _ _ (post_rv R (.str _))⟩
  · rename_i z
    cases hpf
    exact SkE.call_str_str pins s σ H [x] us Q I rx ⟨_, by rw [bx.str], q _ _ (post_rv R (.str _))⟩
  · cases hpf
theorem callr_int : CallR X (.type "int") (rP1 X.K .int) := by
  intro pins s σ H xs us Q I rx ⟨hl, h⟩
  obtain ⟨x, rfl, Ω, ι, ow, env, st, σ', d, r, R, bx, hpf, q⟩ := rP_one h hl
  have hpf : intOf d = some r := hpf
  unfold intOf at hpf
  split at hpf
  · cases hpf
    exact call_int1 pins s σ H [x] us Q I rx (.inl ⟨_, by rw [bx.int], q _ _ (post_int R _)⟩)
  · cases hpf
    exact call_int1 pins s σ H [x] us Q I rx (.inr ⟨_, by rw [bx.bl], q _ _ (post_int R _)⟩)
  · cases hpf
/-! ### numbers of a list -/
theorem ints1_some {f : List Int → Option Int} {d : D} {r : R} (h : ints1 f d = some r) : ∃ xs is i, d = .lst xs ∧ intsD xs = some is ∧ f is = some i ∧ r = pv (.int i) := by
  unfold ints1 at h
  split at h
  · obtain ⟨is, h1, h2⟩ := Option.bind_eq_some_iff.mp h
    obtain ⟨i, h3, h4⟩ := Option.map_eq_some_iff.mp h2
    exact ⟨_, is, i, rfl, h1, h3, h4.symm⟩
  · cases h
theorem maxL_spec : ∀ {l : List Int} {m : Int}, maxL l = some m → m ∈ l ∧ ∀ y ∈ l, y ≤ m
  | [], _, h => by cases h
  | [i], _, h => by cases h; simp
  | i :: j :: r, m, h => by
    have h : (maxL (j :: r)).map (fun m => if i < m then m else i) = some m := h
    obtain ⟨n, h1, rfl⟩ := Option.map_eq_some_iff.mp h
    obtain ⟨h2, h3⟩ := maxL_spec h1
    by_cases hc : i < n
    · rw [if_pos hc]
      refine ⟨List.mem_cons_of_mem _ h2, fun y hy => ?_⟩
      rcases List.mem_cons.mp hy with z | z
      · omega
      · exact h3 y z
    · rw [if_neg hc]
      refine ⟨List.mem_cons_self, fun y hy => ?_⟩
      rcases List.mem_cons.mp hy with z | z
      · omega
      · have := h3 y z; omega
theorem minL_spec : ∀ {l : List Int} {m : Int}, minL l = some m → m ∈ l ∧ ∀ y ∈ l, m ≤ y
  | [], _, h => by cases h
  | [i], _, h => by cases h; simp
  | i :: j :: r, m, h => by
    have h : (minL (j :: r)).map (fun m => if m < i then m else i) = some m := h
    obtain ⟨n, h1, rfl⟩ := Option.map_eq_some_iff.mp h
    obtain ⟨h2, h3⟩ := minL_spec h1
    by_cases hc : n < i
    · rw [if_pos hc]
      refine ⟨List.mem_cons_of_mem _ h2, fun y hy => ?_⟩
      rcases List.mem_cons.mp hy with z | z
      · omega
      · exact h3 y z
    · rw [if_neg hc]
      refine ⟨List.mem_cons_self, fun y hy => ?_⟩
      rcases List.mem_cons.mp hy with z | z
      · omega
      · have := h3 y z; omega
theorem callr_sum (hc : X.calm = true) : CallR X (.builtin "sum") (rP1 X.K .sum) := by
  intro pins s σ H xs us Q I rx ⟨hl, h⟩
  obtain ⟨x, rfl, Ω, ι, ow, env, st, σ', d, r, R, bx, hpf, q⟩ := rP_one h hl
  obtain ⟨ys, is, i, rfl, hi, hf, rfl⟩ := ints1_some (show ints1 (fun is => some is.sum) d = some r from hpf)
  cases hf
  obtain ⟨a, vs, rfl, hs, rs⟩ := bx.lst
  exact cr_sum hc pins s σ H _ us Q I rx ⟨a, is, rfl, by rw [← rs.intsD hi]; exact .of hs, q _ _ (post_int R _)⟩
theorem callr_max (hc : X.calm = true) : CallR X (.builtin "max") (rP1 X.K .max) := by
  intro pins s σ H xs us Q I rx ⟨hl, h⟩
  obtain ⟨x, rfl, Ω, ι, ow, env, st, σ', d, r, R, bx, hpf, q⟩ := rP_one h hl
  obtain ⟨ys, is, i, rfl, hi, hf, rfl⟩ := ints1_some (show ints1 maxL d = some r from hpf)
  obtain ⟨a, vs, rfl, hs, rs⟩ := bx.lst
  obtain ⟨z1, z2⟩ := maxL_spec hf
  refine cr_max hc pins s σ H _ us Q I rx ⟨a, is, rfl, by rw [← rs.intsD hi]; exact .of hs, List.length_pos_of_mem z1, fun m h1 h2 => ?_⟩
  have e : m = i := by have := h2 i z1; have := z2 m h1; omega
  rw [e]
  exact q _ _ (post_int R _)
theorem callr_min (hc : X.calm = true) : CallR X (.builtin "min") (rP1 X.K .min) := by
  intro pins s σ H xs us Q I rx ⟨hl, h⟩
  obtain ⟨x, rfl, Ω, ι, ow, env, st, σ', d, r, R, bx, hpf, q⟩ := rP_one h hl
  obtain ⟨ys, is, i, rfl, hi, hf, rfl⟩ := ints1_some (show ints1 minL d = some r from hpf)
  obtain ⟨a, vs, rfl, hs, rs⟩ := bx.lst
  obtain ⟨z1, z2⟩ := minL_spec hf
  refine cr_min hc pins s σ H _ us Q I rx ⟨a, is, rfl, by rw [← rs.intsD hi]; exact .of hs, List.length_pos_of_mem z1, fun m h1 h2 => ?_⟩
  have e : m = i := by have := h2 i z1; have := z2 m h1; omega
  rw [e]
  exact q _ _ (post_int R _)
theorem callr_max2 (hc : X.calm = true) : CallR X (.builtin "max") (rP X.K .max2) := by
  intro pins s σ H xs us Q I rx h
  obtain ⟨Ω, ι, ow, env, st, σ', ds, r, R, rb, hpf, q⟩ := h
  have hl : ∃ d e, ds = [d, e] := by
    match ds, hpf with
    | [d, e], _ => exact ⟨d, e, rfl⟩
    | _ :: _ :: _ :: _ :: _, h => cases h
    | [_, _, _], h => cases h
  obtain ⟨d, e, rfl⟩ := hl
  obtain ⟨i, j, rfl, rfl, h3⟩ := int2_some (show int2 (fun i j => some (pv (.int (if j > i then j else i)))) d e = some r from hpf)
  cases h3
  cases rb with
  | cons b1 t => cases t with
    | cons b2 t =>
      cases t
      exact call_max2 hc pins s σ H _ us Q I rx ⟨i, j, by rw [b1.int, b2.int], q _ _ (post_int R _)⟩
theorem callr_min2 (hc : X.calm = true) : CallR X (.builtin "min") (rP X.K .min2) := by
  intro pins s σ H xs us Q I rx h
  obtain ⟨Ω, ι, ow, env, st, σ', ds, r, R, rb, hpf, q⟩ := h
  have hl : ∃ d e, ds = [d, e] := by
    match ds, hpf with
    | [d, e], _ => exact ⟨d, e, rfl⟩
    | _ :: _ :: _ :: _ :: _, h => cases h
    | [_, _, _], h => cases h
  obtain ⟨d, e, rfl⟩ := hl
  obtain ⟨i, j, rfl, rfl, h3⟩ := int2_some (show int2 (fun i j => some (pv (.int (if j < i then j else i)))) d e = some r from hpf)
  cases h3
  cases rb with
  | cons b1 t => cases t with
    | cons b2 t =>
      cases t
      exact call_min2 hc pins s σ H _ us Q I rx ⟨i, j, by rw [b1.int, b2.int], q _ _ (post_int R _)⟩
theorem insI_perm (i : Int) : ∀ l : List Int, (insI i l).Perm (i :: l)
  | [] => .refl _
  | j :: r => by
    unfold insI
    split
    · exact .refl _
    · exact ((insI_perm i r).cons j).trans (.swap i j r)
theorem insI_sorted (i : Int) : ∀ l : List Int, l.Pairwise (· ≤ ·) → (insI i l).Pairwise (· ≤ ·)
  | [], _ => by simp [insI]
  | j :: r, h => by
    unfold insI
    rw [List.pairwise_cons] at h
    split
    · rename_i hij
      refine .cons (fun y hy => ?_) (.cons h.1 h.2)
      rcases List.mem_cons.mp hy with z | z
      · omega
      · have := h.1 y z; omega
    · rename_i hij
      refine .cons (fun y hy => ?_) (insI_sorted i r h.2)
      rcases List.mem_cons.mp ((insI_perm i r).mem_iff.mp hy) with z | z
      · omega
      · exact h.1 y z
theorem sortI_perm : ∀ l : List Int, (sortI l).Perm l
  | [] => .refl _
  | i :: r => (insI_perm i _).trans ((sortI_perm r).cons i)
theorem sortI_sorted : ∀ l : List Int, (sortI l).Pairwise (· ≤ ·)
  | [] => .nil
  | i :: r => insI_sorted i _ (sortI_sorted r)
theorem sorted_one : ∀ {l l' : List Int}, l.Perm l' → l.Pairwise (· ≤ ·) → l'.Pairwise (· ≤ ·) → l = l'
  | [], l', p, _, _ => by rw [List.nil_perm.mp p]
  | a :: l, [], p, _, _ => absurd p.length_eq (by simp)
  | a :: l, b :: l', p, h, h' => by
    rw [List.pairwise_cons] at h h'
    have e : a = b := by
      have h1 := p.mem_iff.mp (List.mem_cons_self (a := a) (l := l))
      have h2 := p.mem_iff.mpr (List.mem_cons_self (a := b) (l := l'))
      rcases List.mem_cons.mp h1 with z | z
      · exact z
      · rcases List.mem_cons.mp h2 with u | u
        · exact u.symm
        · have := h.1 b u; have := h'.1 a z; omega
    subst e
    rw [sorted_one p.cons_inv h.2 h'.2]
theorem ints_rv {K : PySem.W.Frag} {P : Addr → Prop} {ι : List Addr} {H : Hp} : ∀ ns : List Int, RVs K P ι H (ns.map V.int) (ns.map D.int)
  | [] => .nil
  | n :: ns => .cons (.int n) (ints_rv ns)
theorem callr_sorted : CallR X (.builtin "sorted") (rP1 X.K .sorted) := by
  intro pins s σ H xs us Q I rx ⟨hl, h⟩
  obtain ⟨x, rfl, Ω, ι, ow, env, st, σ', d, r, R, bx, hpf, q⟩ := rP_one h hl
  have hpf : sorted1 d = some r := hpf
  unfold sorted1 at hpf
  split at hpf
  · obtain ⟨is, hi, h2⟩ := Option.bind_eq_some_iff.mp hpf
    obtain ⟨_, rfl⟩ := gd_some h2
    obtain ⟨a, vs, rfl, hs, rs⟩ := bx.lst
    refine cr_sortedI pins s σ H _ us Q I rx ⟨a, is, rfl, by rw [← rs.intsD hi]; exact .of hs, fun ns' p h3 h4 hp => ?_⟩
    rw [sorted_one (h3.trans (sortI_perm is).symm) h4 (sortI_sorted is)]
    exact q _ _ (post_lst R hp (ints_rv _))
  · cases hpf
theorem callr_tuple : CallR X (.type "tuple") (rP1 X.K .tuple) := by
  intro pins s σ H xs us Q I rx ⟨hl, h⟩
  obtain ⟨x, rfl, Ω, ι, ow, env, st, σ', d, r, R, bx, hpf, q⟩ := rP_one h hl
  have hpf : tuple1 d = some r := hpf
  unfold tuple1 at hpf
  split at hpf
  · cases hpf
    obtain ⟨a, ys, rfl, hs, rs⟩ := bx.lst
    exact call_tuple_of pins s σ H _ us Q I rx ⟨a, ys, rfl, .inl ⟨.of hs, fun p hp => q _ _ (post_tup R hp rs)⟩⟩
  · cases hpf
    have rvx := bx.rv (fun _ z => by cases z)
    obtain ⟨a, ys, rfl, hs, rs⟩ := bx.tup
    exact call_tuple_of pins s σ H _ us Q I rx ⟨a, ys, rfl, .inr ⟨hs, q _ _ (post_rv R rvx)⟩⟩
  · cases hpf
theorem callr_list : CallR X (.type "list") (rP1 X.K .list) := by
  intro pins s σ H xs us Q I rx ⟨hl, h⟩
  obtain ⟨x, rfl, Ω, ι, ow, env, st, σ', d, r, R, bx, hpf, q⟩ := rP_one h hl
  have hpf : list1 d = some r := hpf
  unfold list1 at hpf
  split at hpf
  · cases hpf
    obtain ⟨a, ys, rfl, hs, rs⟩ := bx.lst
    exact call_list_of pins s σ H _ us Q I rx ⟨a, ys, rfl, .inl (.of hs), fun p hp => q _ _ (post_lst R hp rs)⟩
  · cases hpf
    obtain ⟨a, ys, rfl, hs, rs⟩ := bx.tup
    exact call_list_of pins s σ H _ us Q I rx ⟨a, ys, rfl, .inr hs, fun p hp => q _ _ (post_lst R hp rs)⟩
  · cases hpf
theorem bools1_some {f : List Bool → Bool} {d : D} {r : R} (h : bools1 f d = some r) : ∃ xs bs, d = .lst xs ∧ blsD xs = some bs ∧ r = pv (.bl (f bs)) := by
  unfold bools1 at h
  split at h
  · obtain ⟨bs, h1, h2⟩ := Option.map_eq_some_iff.mp h
    exact ⟨_, bs, rfl, h1, h2.symm⟩
  · cases h
theorem callr_all (hc : X.calm = true) : CallR X (.builtin "all") (rP1 X.K .all) := by
  intro pins s σ H xs us Q I rx ⟨hl, h⟩
  obtain ⟨x, rfl, Ω, ι, ow, env, st, σ', d, r, R, bx, hpf, q⟩ := rP_one h hl
  obtain ⟨ys, bs, rfl, hb, rfl⟩ := bools1_some (show bools1 (fun bs => bs.all id) d = some r from hpf)
  obtain ⟨a, vs, rfl, hs, rs⟩ := bx.lst
  exact cr_all hc pins s σ H _ us Q I rx ⟨a, bs, rfl, by rw [← rs.bls hb]; exact .of hs, q _ _ (post_bl R _)⟩
theorem callr_any (hc : X.calm = true) : CallR X (.builtin "any") (rP1 X.K .any) := by
  intro pins s σ H xs us Q I rx ⟨hl, h⟩
  obtain ⟨x, rfl, Ω, ι, ow, env, st, σ', d, r, R, bx, hpf, q⟩ := rP_one h hl
  obtain ⟨ys, bs, rfl, hb, rfl⟩ := bools1_some (show bools1 (fun bs => bs.any id) d = some r from hpf)
  obtain ⟨a, vs, rfl, hs, rs⟩ := bx.lst
  exact cr_any hc pins s σ H _ us Q I rx ⟨a, bs, rfl, by rw [← rs.bls hb]; exact .of hs, q _ _ (post_bl R _)⟩
/-! ### isinstance -/
def tyS : Ty → String
  | .int => "int" | .bool => "bool" | .str => "str" | .tuple => "tuple" | .list => "list"
theorem RB.ty {K : PySem.W.Frag} {P : Addr → Prop} {ι : List Addr} {H : Hp} {x : V} {d : D} {t : Ty} {b : Bool} (h : RB K P ι H x d) (e : isiD d t = some b) : ∃ n, TyX K H x (.type n) ∧ kitB n (tyS t) = some b := by
  have low : ∀ {a : Addr} {xs : List V} {ds : List D}, H a = some (.lst xs) → isiD (.lst ds) t = some b → ∃ n, TyX K H (.ref a) (.type n) ∧ kitB n (tyS t) = some b := fun h e => by
    refine ⟨"list", .base (.lst h), ?_⟩
    cases t <;> (cases e; decide +kernel)
  rcases h with h | ⟨a, xs, ds, rfl, rfl, h, r⟩
  · cases h with
    | non => exact ⟨"NoneType", .base .non, by cases t <;> (cases e; decide +kernel)⟩
    | bl c => exact ⟨"bool", .base (.bl c), by cases t <;> (cases e; decide +kernel)⟩
    | int c => exact ⟨"int", .base (.int c), by cases t <;> (cases e; decide +kernel)⟩
    | str c => exact ⟨"str", .base (.str c), by cases t <;> (cases e; decide +kernel)⟩
    | tupH h n r => exact ⟨"tuple", .base (.tup h), by cases t <;> (cases e; decide +kernel)⟩
    | tupK h r =>
      obtain ⟨o, its, n, h1, h2, _⟩ := h
      exact ⟨"tuple", .kTuple h1 h2, by cases t <;> (cases e; decide +kernel)⟩
    | lst h n r => exact low h e
    | scrH h n => cases e
    | scrK h => cases e
    | ref h => cases e
    | dctK h n e1 r => exact ⟨"dict", .base (.dK h), by cases t <;> (cases e; decide +kernel)⟩
    | dctT h n e1 r => exact ⟨"dict", .base (.dT h), by cases t <;> (cases e; decide +kernel)⟩
  · exact low h e
theorem callr_isi (t : Ty) : CallR X (.builtin "isinstance") (fun xs H Q => ∃ x, xs = [x, .ty (tyS t)] ∧ rP X.K (.isi t) [x] H Q) := by
  intro pins s σ H xs us Q I rx ⟨x, e, h⟩
  subst e
  obtain ⟨Ω, ι, ow, env, st, σ', ds, r, R, rb, hpf, q⟩ := h
  obtain ⟨d, rfl, bx⟩ := rb.one
  have hpf : (isiD d t).map (fun b => pv (.bl b)) = some r := hpf
  obtain ⟨b, hb, rfl⟩ := Option.map_eq_some_iff.mp hpf
  obtain ⟨n, h1, h2⟩ := bx.ty hb
  exact call_isi pins s σ H _ us Q I rx ⟨x, .ty (tyS t), .type n, .type (tyS t), b, rfl, .ty _, h1, kit_ty h2, q _ _ (post_bl R _)⟩
end
end IP

set_option Elab.async false
set_option linter.all false
set_option maxRecDepth 100000
set_option maxHeartbeats 2000000
namespace IP
open PySem PySem.Spec PyProof.Rows L2

/-! ### the judgements of an expression -/
def TTm (K : PySem.W.Frag) (ex : Nat → Addr × Str) (W : WX) (m : M R) : TT := tB (TEm K ex W m)
structure JE (X : Cx) (ex : Nat → Addr × Str) (C : CallF) (W : WX) (e : Expr) (ir : E) : Prop where
  pe : PE X e (TEm X.K ex W (evalE C ir))
  pt : PT X e (TTm X.K ex W (evalE C ir))
  pw : ∀ op vs pos, e = .BoolOp op vs pos → PW X e (TTm X.K ex W (evalE C ir))
theorem _root_.L2.PE.imp {X : Cx} {e : Expr} {t t' : TE} (h : PE X e t) (hi : ∀ σ H Q, t' σ H Q → t σ H Q) : PE X e t' := ⟨fun pins s σ H Q I hw => h.run pins s σ H Q I (hi σ H Q hw)⟩
theorem _root_.L2.PT.imp {X : Cx} {e : Expr} {t t' : TT} (h : PT X e t) (hi : ∀ σ H Q, t' σ H Q → t σ H Q) : PT X e t' := ⟨fun pins s σ H Q I hw => h.run pins s σ H Q I (hi σ H Q hw)⟩
theorem _root_.L2.PW.imp {X : Cx} {e : Expr} {t t' : TT} (h : PW X e t) (hi : ∀ σ H Q, t' σ H Q → t σ H Q) : PW X e t' := ⟨fun wh pins s σ H Q I hw => h.run wh pins s σ H Q I (hi σ H Q hw)⟩
theorem _root_.L2.PA.imp {X : Cx} {es : List Expr} {t t' : TA} (h : PA X es t) (hi : ∀ σ H Q, t' σ H Q → t σ H Q) : PA X es t' := ⟨fun pos pins s σ H Q I hw => h.run pos pins s σ H Q I (hi σ H Q hw)⟩
/-- tests that are their values' truth -/
def plainT : Expr → Bool
  | .UnaryOp .Not .. => false
  | .BoolOp .. => false
  | .IfExp .. => false
  | .Compare .. => false
  | _ => true
theorem isTrue_of_plain {e : Expr} (h : plainT e = true) (env : Env) (whole : Sem Value) : isTrue e env whole = (do let v ← whole; standAt e.pos; holding [v] (truthy v)) := by
  cases e with
  | UnaryOp op a pos => cases op <;> first | rfl | cases h
  | BoolOp => cases h
  | IfExp => cases h
  | Compare => cases h
  | _ => rfl
theorem JE.plain {X : Cx} {ex : Nat → Addr × Str} {C : CallF} {W : WX} {e : Expr} {ir : E} (h : PE X e (TEm X.K ex W (evalE C ir))) (hp : plainT e = true) : JE X ex C W e ir :=
  ⟨h, pt_val h (isTrue_of_plain hp X.env), fun op vs pos z => by subst z; cases hp⟩
/-- what a call keeps: the interpreter's answer -/
def spC (K : PySem.W.Frag) (ex : Nat → Addr × Str) (C : CallF) (f : Nat) : Sp := fun vs H Q E => ∃ Ω ι ds st, Rel K Ω ι noow [] st [] H ∧ RVs K (Prot Ω ι noow) ι H vs ds ∧ (match C f ds st with
  | .ok d fr st' => ∀ v H', PostR K Ω ι noow H (d, fr) [] st' [] v H' → Q v H'
  | .err x st' => ∀ cls dd H', PostX K ex Ω ι noow H x [] st' [] cls dd H' → E cls dd H'
  | .stuck => False)
/-- a function that may be called -/
structure FnI (X : Cx) (ex : Nat → Addr × Str) (C : CallF) (f : Nat) (a : Addr) (fd : FuncData) (k : Nat) (ps : List Str) : Prop where
  kp : PySem.W.keepIn X.K (.ref a) = true
  bd : Binds X.K fd ps []
  ok : FnOk X.prog X.w X.K X.mg X.base (L2.CX X.prog X.w) k a fd ps (spC X.K ex C f)
  room : Room k X.A
/-- an exception class of the program's own, made of nothing -/
structure ExI (K : PySem.W.Frag) (a : Addr) : Prop where
  ex : PySem.W.excIn K a He.veBase "ValueError.__new__" = true
  kp : PySem.W.keepIn K (.ref a) = true
  sb : PySem.W.subIn K (.ref a) (.type "BaseException") = some true
  ty : PySem.W.typeIn K (.ref a) = some (.type "type")
/-- where one stands -/
structure Ctx (g : G) (ex : Nat → Addr × Str) (C : CallF) (cn : Cn) (X : Cx) : Prop where
  hN : X.N = cn.N
  nd : X.N.Nodup
  names : X.env.scope.names = cn.nm
  kind : X.env.scope.kind = .function
  wr : ∀ x, cn.wr x = true → X.fn x = true
  calm : X.calm = true
  units : X.A.units + 64 < cLine
  blt : ∀ x, g.blt.contains x = true → X.mg x = none
  cons : ∀ x d, g.cons.lookup x = some d → ∃ v u, X.mg x = some u ∧ RelV v u ∧ ∀ P ι H, RV X.K P ι H v d
  fns : ∀ x f, g.fns.lookup x = some f → ∃ a fd k ps, X.mg x = some (.ref a) ∧ FnI X ex C f a fd k ps
  exs : ∀ x k, g.exs.lookup x = some k → X.mg x = some (.ref (ex k).1) ∧ ExI X.K (ex k).1
  cls : ∀ x f al, g.cls.lookup x = some (f, al) → X.mg x = some (.ref (He.ga X.K x)) ∧ ClsI X.K x al ∧ ∃ a fd k ps, Mk X.K (He.ga X.K x) a ∧ Binds X.K fd ps [] ∧ FnOk X.prog X.w X.K X.mg X.base (L2.CX X.prog X.w) k a fd ps (spC X.K ex C f) ∧ Room (k + 1) X.A
  mth : ∀ m cs, g.mth.lookup m = some cs → ∀ c f, cs.lookup c = some f → ∃ a fd k ps, Meth X.K (He.ga X.K c) m a ∧ FnI X ex C f a fd k ps
  dcs : ∀ x kvs, g.dcs.lookup x = some kvs → ∃ a es n, X.mg x = some (.ref a) ∧ KDict X.K X.w a es n ∧ ∀ z, ∃ r, PySem.W.nsIn X.K a z = some r ∧ (match kvs.lookup z with | some i => ∃ t, r = some (.int i t) | none => r = none)
theorem slotIx_get : ∀ {N : List Str} {x : Str} {i : Nat}, slotIx N x = some i → N[i]? = some x
  | [], _, _, h => by cases h
  | y :: r, x, i, h => by
    have h' : (if y = x then some 0 else (slotIx r x).map (· + 1)) = some i := h
    by_cases e : y = x
    · rw [if_pos e] at h'
      cases h'
      rw [e]; rfl
    · rw [if_neg e] at h'
      obtain ⟨j, h1, rfl⟩ := Option.map_eq_some_iff.mp h'
      exact slotIx_get (N := r) (i := j) h1
section
variable {g : G} {ex : Nat → Addr × Str} {C : CallF} {cn : Cn} {X : Cx} {W : WX}
theorem plain_names {x : Str} (h : plainName x = true) : (x == ("__debug__" : Str)) = false ∧ (x == ("__classdict__" : Str)) = false ∧ x ≠ "__name__" := by
  unfold plainName at h
  rw [Bool.and_eq_true, Bool.and_eq_true, Bool.not_eq_true', Bool.not_eq_true', Bool.not_eq_true'] at h
  exact ⟨h.1.1, h.1.2, fun z => by rw [z] at h; exact absurd h.2 (by decide)⟩
theorem Ctx.read (c : Ctx g ex C cn X) {x : Str} {i : Nat} (h : rdIx cn x = some i) : X.N[i]? = some x ∧ Vis X.env.scope x ∧ plainName x = true := by
  unfold rdIx at h
  obtain ⟨u, h1, h2⟩ := Option.bind_eq_some_iff.mp h
  have h3 := (gd_some h1).1
  rw [Bool.and_eq_true] at h3
  refine ⟨by rw [c.hN]; exact slotIx_get h2, ?_, h3.2⟩
  have h4 := h3.1
  unfold visN at h4
  unfold Vis
  rw [c.names]
  split at h4 <;> simp_all
theorem Ctx.write (c : Ctx g ex C cn X) {x : Str} {i : Nat} (h : wrIx cn x = some i) : X.N[i]? = some x ∧ L2.Loc X.env.scope x ∧ (X.fn x = true ∨ X.env.scope.names.lookup x = some .local) := by
  unfold wrIx at h
  obtain ⟨u, h1, h2⟩ := Option.bind_eq_some_iff.mp h
  have h4 := (gd_some h1).1
  refine ⟨by rw [c.hN]; exact slotIx_get h2, ?_⟩
  unfold locN at h4
  unfold L2.Loc
  rw [c.names]
  split at h4
  · rename_i e; exact ⟨.inl e, .inr e⟩
  · rename_i e; exact ⟨.inr e, .inl (c.wr x h4)⟩
  · cases h4
theorem Ctx.gl (c : Ctx g ex C cn X) {x : Str} (h : glN cn x = true) : Gl X x := by
  unfold glN at h
  unfold Gl Env.kindOf
  rw [c.names]
  split at h
  · assumption
  · cases h
theorem JE.notStar {e : Expr} {ir : E} (n : Nat) (h : compE g n cn e = some ir) : ∀ a p, e ≠ .Starred a p := fun a p z => by
  subst z
  cases n <;> cases h
theorem star_plain {e : Expr} (h : ∀ a p, e ≠ .Starred a p) (es : List Expr) (env : Env) : starEach (e :: es) env = (false, eval e env) :: starEach es env := by
  cases e with
  | Starred a p => exact absurd rfl (h a p)
  | _ => rfl
/-! ### operands, arguments -/
theorem JE.opd {f : Expr → Option E} {e : Expr} {o : E} (c : Ctx g ex C cn X) (h : opdC cn f e = some o) (hf : ∀ ir, f e = some ir → JE X ex C W e ir) : PE X e (tO X.K ex C W o) := by
  have gen : valC f e = some o → PE X e (tO X.K ex C W o) := fun h => by
    obtain ⟨ir, h1, h2⟩ := Option.bind_eq_some_iff.mp h
    obtain ⟨h3, rfl⟩ := gd_some h2
    have := (hf ir h1).pe
    cases ir <;> first | exact this | exact absurd h3 Bool.false_ne_true
  unfold opdC at h
  split at h
  · rename_i x p
    cases e1 : rdIx cn x with
    | none => rw [e1] at h; exact gen h
    | some i =>
      rw [e1] at h
      cases h
      obtain ⟨h1, h2, h3⟩ := c.read e1
      exact pe_var h1 h2 (plain_names h3).1 (plain_names h3).2.1
  · exact gen h
theorem JE.val {f : Expr → Option E} {e : Expr} {o : E} (h : valC f e = some o) (hf : ∀ ir, f e = some ir → JE X ex C W e ir) : PE X e (tO X.K ex C W o) ∧ o.notBor = true := by
  obtain ⟨ir, h1, h2⟩ := Option.bind_eq_some_iff.mp h
  obtain ⟨h3, rfl⟩ := gd_some h2
  have := (hf ir h1).pe
  refine ⟨?_, h3⟩
  cases ir <;> first | exact this | exact absurd h3 Bool.false_ne_true
/-- arguments -/
theorem args_of {fo : Expr → Option E} (hs : ∀ e o, fo e = some o → (∀ a p, e ≠ .Starred a p) ∧ PE X e (tO X.K ex C W o)) : ∀ {es : List Expr} {os : List E}, mapO fo es = some os → PA X es (tOs X.K ex C W os) ∧ es.length = os.length ∧ ∀ pos, (backTo pos (starEach es X.env)).any (·.1) = false
  | [], _, h => by cases h; exact ⟨pa_nil, rfl, fun _ => rfl⟩
  | e :: es, os, h => by
    obtain ⟨o, h1, h2⟩ := Option.bind_eq_some_iff.mp h
    obtain ⟨l, h3, h4⟩ := Option.bind_eq_some_iff.mp h2
    cases h4
    obtain ⟨i1, i2, i3⟩ := args_of hs h3
    obtain ⟨j1, j2⟩ := hs e o h1
    refine ⟨pa_cons j2 i1 (star_plain j1 es X.env), congrArg (· + 1) i2, fun pos => ?_⟩
    rw [star_plain j1 es X.env]
    exact i3 pos
theorem notBor_of {f : Expr → Option E} : ∀ {es : List Expr} {os : List E}, mapO (valC f) es = some os → os.all E.notBor = true
  | [], _, h => by cases h; rfl
  | e :: es, os, h => by
    obtain ⟨o, h1, h2⟩ := Option.bind_eq_some_iff.mp h
    obtain ⟨l, h3, h4⟩ := Option.bind_eq_some_iff.mp h2
    cases h4
    obtain ⟨ir, _, h5⟩ := Option.bind_eq_some_iff.mp h1
    obtain ⟨h6, rfl⟩ := gd_some h5
    rw [List.all_cons, h6, notBor_of h3]; rfl
/-! ### an operation -/
theorem prim_of {p : P} {os : List E} {σ : L2.St} {H : Hp} {Q : VK} {G : List V → Hp → Prop} (h : TEm X.K ex W (evalE C (.prim p os)) σ H Q) (hG : ∀ vs H1, vs.length = os.length → rP X.K p vs H1 Q → G vs H1) : tOs X.K ex C W os σ H G := by
  obtain ⟨Ω, ι, ow, env, st, R, hr⟩ := h
  refine ops_of os R (show Run X.K ex W Ω ι ow σ H (M.bind (evalOs C os) (fun ds env st => M.opt (pfS st p ds) env st) env st) _ from hr) fun ds env1 st1 vs H1 ι1 ow1 f1 R1 ro h1 => ?_
  obtain ⟨r, h2, h3⟩ := Run.opt h1
  exact hG vs H1 ro.length.1 ⟨Ω, ι1, ow1, env1, st1, σ, ds, r, R1, ro.rb, h2, fun v H' z => h3 v H' (z.trans f1)⟩
theorem tO_pe {a : Expr} {o : E} (h : PE X a (tO X.K ex C W o)) : PE X a (tO X.K ex C W o) := h
theorem opr_bin {op : Operator} {p : P} (h : opP op = some p) : OpR X (binaryOp op) (fun x y => rP X.K p [x, y]) := by
  cases op <;> first | cases h | skip
  · exact opr_add
  · exact opr_sub
  · exact opr_mul
  · exact opr_mod
  · exact opr_pow
  · exact opr_shl
  · exact opr_shr
  · exact opr_bor
  · exact opr_bxor
  · exact opr_band
  · exact opr_fdiv
theorem opr_cmp (hu : X.A.units + 64 < cLine) {op : CmpOp} {p : P} (h : cmpP op = some p) : OpR X (compareOp op) (fun x y => rP X.K p [x, y]) := by
  cases op <;> first | cases h | skip
  · exact opr_eq hu
  · exact opr_ne hu
  · exact opr_lt
  · exact opr_le
  · exact opr_gt
  · exact opr_ge
  · exact opr_in
  · exact opr_nin
theorem je_bin {op : Operator} {p : P} {a b : Expr} {i j : E} {pos : Pos} (hp : opP op = some p) (ha : PE X a (tO X.K ex C W i)) (hb : PE X b (tO X.K ex C W j)) : JE X ex C W (.BinOp a op b pos) (.prim p [i, j]) :=
  .plain ((pe_op (opr_bin hp) ha hb).imp fun σ H Q h => prim_of (G := fun vs H1 => rP X.K p vs H1 Q) h fun _ _ _ z => z) rfl
end
end IP

set_option Elab.async false
set_option linter.all false
set_option maxRecDepth 100000
set_option maxHeartbeats 2000000
namespace IP
open PySem PySem.Spec PyProof.Rows L2
section
variable {g : G} {ex : Nat → Addr × Str} {C : CallF} {cn : Cn} {X : Cx} {W : WX}
/-! ### values as they are -/
theorem TEm.ret {d : D} {v : V} {σ : L2.St} {H : Hp} {Q : VK} (h : TEm X.K ex W (M.ret (pv d)) σ H Q) (hv : ∀ P ι H, RV X.K P ι H v d) : Q v H := by
  obtain ⟨Ω, ι, ow, env, st, R, hr⟩ := h
  exact hr v H (post_rv R (hv _ _ _))
theorem je_con {k : Const} {d : D} {j : Nat} {pos : Pos} (h : conD k = some d) : JE X ex C W (.Constant k j pos) (.con d) := by
  have hc : ∀ (v : V), (∀ P ι H, RV X.K P ι H v d) → PE X (.Constant k j pos) (tC v) → JE X ex C W (.Constant k j pos) (.con d) := fun v hv hp =>
    .plain (hp.imp fun σ H Q h => TEm.ret (show TEm X.K ex W (M.ret (pv d)) σ H Q from h) hv) rfl
  cases k <;> first | cases h | skip
  · exact hc .non (fun _ _ _ => .non) pe_non
  · exact hc _ (fun _ _ _ => .bl _) pe_bl
  · exact hc _ (fun _ _ _ => .int _) pe_int
  · exact hc _ (fun _ _ _ => .str _) pe_str
theorem je_glo (c : Ctx g ex C cn X) {x : Str} {d : D} {pos : Pos} (hg : glN cn x = true) (hp : plainName x = true) (h : g.cons.lookup x = some d) : JE X ex C W (.Name x pos) (.con d) := by
  obtain ⟨v, u, h1, h2, h3⟩ := c.cons x d h
  exact .plain ((pe_glob (c.gl hg) h1 h2 (plain_names hp).1).imp fun σ H Q h => TEm.ret (show TEm X.K ex W (M.ret (pv d)) σ H Q from h) h3) rfl
def dropo (ow : Nat → Option Addr) (i : Nat) : Nat → Option Addr := fun j => if j = i then none else ow j
theorem dropo_some {ow : Nat → Option Addr} {i j : Nat} {a : Addr} (h : dropo ow i j = some a) : j ≠ i ∧ ow j = some a := by
  unfold dropo at h
  by_cases e : j = i
  · rw [if_pos e] at h; cases h
  · rw [if_neg e] at h; exact ⟨e, h⟩
theorem dropo_ne {ow : Nat → Option Addr} {i j : Nat} (h : j ≠ i) : dropo ow i j = ow j := if_neg h
theorem prot_dropo {Ω : Addr → Prop} {ι : List Addr} {ow : Nat → Option Addr} {i : Nat} {b : Addr} (z : Prot Ω ι (dropo ow i) b) : Prot Ω ι ow b := by
  rcases z with z | z | ⟨j, z⟩
  · exact .inl z
  · exact .inr (.inl z)
  · exact .inr (.inr ⟨j, (dropo_some z).2⟩)
theorem Rel.not_dropo {K : PySem.W.Frag} {Ω : Addr → Prop} {ι : List Addr} {ow : Nat → Option Addr} {env : EnvI} {st : Sto} {σ : L2.St} {H : Hp} (R : Rel K Ω ι ow env st σ H) {i : Nat} {a : Addr} (h : ow i = some a) : ¬ Prot Ω ι (dropo ow i) a := fun z => by
  rcases z with z | z | ⟨j, z⟩
  · exact (R.disj a z).2 i h
  · exact R.owio i a h z
  · exact (dropo_some z).1 (R.inj j i a (dropo_some z).2 h)
theorem Fr.dropo {ι : List Addr} {ow : Nat → Option Addr} {H : Hp} (i : Nat) : Fr ι ow H ι (dropo ow i) H := by
  refine ⟨fun _ _ z => z, fun _ _ z _ _ => z, fun b o z => ⟨o, z⟩, fun b o _ z => ?_⟩
  rcases z with z | ⟨j, z⟩
  · exact .inl z
  · exact .inr ⟨j, (dropo_some z).2⟩
/-- a slot's own list is let go -/
theorem Rel.letgo {K : PySem.W.Frag} {Ω : Addr → Prop} {ι : List Addr} {ow : Nat → Option Addr} {env : EnvI} {st : Sto} {σ : L2.St} {H : Hp} (R : Rel K Ω ι ow env st σ H) {i : Nat} {ds : List D} (h : env[i]? = some (.own ds)) :
    ∃ ow' v, Rel K Ω ι ow' (env.set i (.val (.lst ds))) st σ H ∧ Fr ι ow H ι ow' H ∧ σ[i]? = some (some v) ∧ RV K (Prot Ω ι ow') ι H v (.lst ds) := by
  obtain ⟨a, xs, h1, h2, h3, h4⟩ := R.owns i ds h
  have hi : i < env.length := (List.getElem?_eq_some_iff.mp h).1
  have lt : Tr (Prot Ω ι ow) (Prot Ω ι (IP.dropo ow i)) ι ι H H := .less fun b z => prot_dropo z
  have na := R.not_dropo h1
  refine ⟨IP.dropo ow i, .ref a, ?_, .dropo i, h2, .lst h3 na (h4.tr lt)⟩
  refine ⟨by rw [List.length_set]; exact R.len, R.slen, R.nodup, fun b z => ⟨(R.disj b z).1, fun j q => (R.disj b z).2 j (dropo_some q).2⟩, R.trk, fun j b z => R.owio j b (dropo_some z).2, fun j k b z q => R.inj j k b (dropo_some z).2 (dropo_some q).2, fun j b z => ?_, fun j d e => ?_, fun j es e => ?_, fun k es e => ?_⟩
  · obtain ⟨z1, z2⟩ := dropo_some z
    obtain ⟨es, q⟩ := R.owsl j b z2
    exact ⟨es, by rw [List.getElem?_set_ne (Ne.symm z1)]; exact q⟩
  · by_cases ej : j = i
    · subst ej
      rw [List.getElem?_set_self hi] at e
      cases e
      exact ⟨.ref a, h2, .lst h3 na (h4.tr lt)⟩
    · rw [List.getElem?_set_ne (Ne.symm ej)] at e
      obtain ⟨v, q1, q2⟩ := R.vals j d e
      exact ⟨v, q1, q2.tr lt⟩
  · by_cases ej : j = i
    · subst ej
      rw [List.getElem?_set_self hi] at e
      cases e
    · rw [List.getElem?_set_ne (Ne.symm ej)] at e
      obtain ⟨b, ys, q1, q2, q3, q4⟩ := R.owns j es e
      exact ⟨b, ys, by rw [dropo_ne ej]; exact q1, q2, q3, q4.tr lt⟩
  · obtain ⟨b, q1, q2⟩ := R.boxs k es e
    exact ⟨b, q1, q2.tr lt fun _ e => e⟩
theorem je_var (c : Ctx g ex C cn X) {x : Str} {i : Nat} {pos : Pos} (h : rdIx cn x = some i) : JE X ex C W (.Name x pos) (.var i) := by
  obtain ⟨h1, h2, h3⟩ := c.read h
  refine .plain ((pe_var h1 h2 (plain_names h3).1 (plain_names h3).2.1).imp fun σ H Q h => ?_) rfl
  obtain ⟨Ω, ι, ow, env, st, R, hr⟩ := h
  have hr : Run X.K ex W Ω ι ow σ H ((M.bind (rdVar i) fun d => M.ret (pv d)) env st) _ := hr
  have h5 := hr.bind
  unfold rdVar at h5
  cases q : env[i]? with
  | none => rw [q] at h5; exact h5.elim
  | some sl =>
    rw [q] at h5
    cases sl with
    | none => exact h5.elim
    | val d =>
      obtain ⟨v, e1, e2⟩ := R.vals i d q
      exact ⟨v, e1, h5 v H (post_rv R e2)⟩
    | own ds =>
      obtain ⟨ow', v, R', f, e1, e2⟩ := R.letgo q
      exact ⟨v, e1, h5 v H ((post_rv R' e2).trans f)⟩
/-! ### displays -/
theorem je_tup {es : List Expr} {os : List E} {k : Nat} {pos : Pos} (ha : PA X es (tOs X.K ex C W os)) (hb : os.all E.notBor = true) : JE X ex C W (.Tuple es k pos) (.tup os) := by
  refine .plain ((pe_tup ha).imp fun σ H Q h => ?_) rfl
  obtain ⟨Ω, ι, ow, env, st, R, hr⟩ := h
  refine ops_of os R (show Run X.K ex W Ω ι ow σ H (M.bind (evalOs C os) (fun ds => M.opt (gd (lineOk ds.length) (pv (.tup ds)))) env st) _ from hr) fun ds env1 st1 vs H1 ι1 ow1 f1 R1 ro h1 => ?_
  obtain ⟨r, h2, h3⟩ := Run.opt h1
  obtain ⟨h4, rfl⟩ := gd_some h2
  have rv := ro.rv hb
  exact ⟨by rw [rv.length]; exact line_ok h4, fun p hp => h3 _ _ ((post_tup R1 hp rv).trans f1)⟩
theorem je_lst {es : List Expr} {os : List E} {pos : Pos} (ha : PA X es (tOs X.K ex C W os)) (hb : os.all E.notBor = true) : JE X ex C W (.List es pos) (.lst os) := by
  refine .plain ((pe_lst ha).imp fun σ H Q h => ?_) rfl
  obtain ⟨Ω, ι, ow, env, st, R, hr⟩ := h
  refine ops_of os R (show Run X.K ex W Ω ι ow σ H (M.bind (evalOs C os) (fun ds => M.opt (gd (lineOk ds.length) (D.lst ds, true))) env st) _ from hr) fun ds env1 st1 vs H1 ι1 ow1 f1 R1 ro h1 => ?_
  obtain ⟨r, h2, h3⟩ := Run.opt h1
  obtain ⟨h4, rfl⟩ := gd_some h2
  have rv := ro.rv hb
  exact ⟨by rw [rv.length]; exact line_ok h4, fun p hp => h3 _ _ ((post_lst R1 hp rv).trans f1)⟩
/-- a new object that is boxed -/
theorem Rel.box {K : PySem.W.Frag} {Ω : Addr → Prop} {ι : List Addr} {ow : Nat → Option Addr} {env : EnvI} {st : Sto} {σ : L2.St} {H : Hp} (R : Rel K Ω ι ow env st σ H) {p : Addr} {o : HO} {bx : Bx} (hp : H p = none) (r : ∀ P' ι', Tr (Prot Ω ι ow) P' ι ι' H (upd H p o) → RBx K P' ι' (upd H p o) p bx) :
    Rel K Ω (ι ++ [p]) ow env (st ++ [bx]) σ (upd H p o) ∧ Fr ι ow H (ι ++ [p]) ow (upd H p o) := by
  have np : p ∉ ι := fun z => by
    obtain ⟨ys, e⟩ := R.io_trk z
    rw [hp] at e; cases e
  have pr : ∀ (k : Nat) (a : Addr), ι[k]? = some a → (ι ++ [p])[k]? = some a := fun k a e => by
    rw [List.getElem?_append_left (List.getElem?_eq_some_iff.mp e).1]; exact e
  have tr : Tr (Prot Ω ι ow) (Prot Ω (ι ++ [p]) ow) ι (ι ++ [p]) H (upd H p o) := ⟨fun a o e _ => upd_keep hp a o e, fun a o e z => by
    rcases z with z | z | z
    · exact .inl z
    · rcases List.mem_append.mp z with z | z
      · exact .inr (.inl z)
      · rw [List.mem_singleton.mp z, hp] at e; cases e
    · exact .inr (.inr z), pr⟩
  refine ⟨⟨R.len, by rw [List.length_append, List.length_append, R.slen]; rfl, ?_, fun a z => ⟨fun q => ?_, (R.disj a z).2⟩, fun a z => ?_, fun i a z q => ?_, R.inj, R.owsl, fun i d e => ?_, fun i es e => ?_, fun k es e => ?_⟩, ?_⟩
  · rw [List.nodup_append]
    exact ⟨R.nodup, by simp, fun a ha b hb z => by rw [List.mem_singleton.mp hb] at z; rw [z] at ha; exact np ha⟩
  · rcases List.mem_append.mp q with q | q
    · exact (R.disj a z).1 q
    · obtain ⟨o, e⟩ := R.trk a z
      rw [List.mem_singleton.mp q, hp] at e; cases e
  · obtain ⟨o, e⟩ := R.trk a z
    exact ⟨o, upd_keep hp a o e⟩
  · rcases List.mem_append.mp q with q | q
    · exact R.owio i a z q
    · obtain ⟨ys, e⟩ := R.ow_trk z
      rw [List.mem_singleton.mp q, hp] at e; cases e
  · obtain ⟨v, h1, h2⟩ := R.vals i d e
    exact ⟨v, h1, h2.tr tr⟩
  · obtain ⟨a, ys, h1, h2, h3, h4⟩ := R.owns i es e
    exact ⟨a, ys, h1, h2, upd_keep hp _ _ h3, h4.tr tr⟩
  · by_cases hk : k < st.length
    · rw [List.getElem?_append_left hk] at e
      obtain ⟨a, h1, h2⟩ := R.boxs k es e
      exact ⟨a, pr k a h1, h2.tr tr fun o e => upd_keep hp _ _ e⟩
    · rw [List.getElem?_append_right (by omega)] at e
      have hk2 : k - st.length = 0 := by
        have := (List.getElem?_eq_some_iff.mp e).1
        simp at this
        omega
      rw [hk2] at e
      cases e
      refine ⟨p, ?_, r _ _ tr⟩
      have e3 : k = ι.length := by rw [R.slen]; omega
      rw [e3, List.getElem?_append_right (Nat.le_refl _), Nat.sub_self]; rfl
  · refine ⟨pr, fun a o e _ _ => upd_keep hp a o e, fun a o e => ⟨o, upd_keep hp a o e⟩, fun a o e z => ?_⟩
    rcases z with z | z
    · rcases List.mem_append.mp z with z | z
      · exact .inl z
      · rw [List.mem_singleton.mp z, hp] at e; cases e
    · exact .inr z
theorem pe_box {es : List Expr} {os : List E} {pos : Pos} (ha : PA X es (tOs X.K ex C W os)) (hb : os.all E.notBor = true) : PE X (.List es pos) (TEm X.K ex W (evalE C (.box os))) := by
  refine (pe_lst ha).imp fun σ H Q h => ?_
  obtain ⟨Ω, ι, ow, env, st, R, hr⟩ := h
  refine ops_of os R (show Run X.K ex W Ω ι ow σ H (M.bind (evalOs C os) (fun ds env st => if lineOk ds.length then .ok (pv (.ref st.length)) env (st ++ [.lst ds]) else .stuck) env st) _ from hr) fun ds env1 st1 vs H1 ι1 ow1 f1 R1 ro h1 => ?_
  have rv := ro.rv hb
  by_cases hl : lineOk ds.length = true
  · have h1 : Run X.K ex W Ω ι1 ow1 σ H1 (if lineOk ds.length then .ok (pv (.ref st1.length)) env1 (st1 ++ [.lst ds]) else .stuck) _ := h1
    rw [if_pos hl] at h1
    refine ⟨by rw [rv.length]; exact line_ok hl, fun p hp => ?_⟩
    obtain ⟨R2, f2⟩ := R1.box hp fun P' ι' t => .lst upd_same (rv.tr t)
    refine h1 (.ref p) _ (.of_pv ⟨_, _, f1.trans f2, R2, .ref ?_⟩)
    rw [← R1.slen, List.getElem?_append_right (Nat.le_refl _), Nat.sub_self]; rfl
  · have h1 : Run X.K ex W Ω ι1 ow1 σ H1 (if lineOk ds.length then .ok (pv (.ref st1.length)) env1 (st1 ++ [.lst ds]) else .stuck) _ := h1
    rw [if_neg hl] at h1
    exact h1.elim
end
end IP

set_option Elab.async false
set_option linter.all false
set_option maxRecDepth 100000
set_option maxHeartbeats 2000000
namespace IP
open PySem PySem.Spec PyProof.Rows L2
section
variable {g : G} {ex : Nat → Addr × Str} {C : CallF} {cn : Cn} {X : Cx} {W : WX}
/-! ### operations with one rule each -/
theorem je_neg {a : Expr} {i : E} {pos : Pos} (ha : PE X a (tO X.K ex C W i)) : JE X ex C W (.UnaryOp .USub a pos) (.prim .neg [i]) :=
  .plain ((pe_un unr_neg ha).imp fun σ H Q h => prim_of (G := fun vs H1 => rP X.K .neg vs H1 Q) h fun _ _ _ z => z) rfl
theorem je_inv {a : Expr} {i : E} {pos : Pos} (ha : PE X a (tO X.K ex C W i)) : JE X ex C W (.UnaryOp .Invert a pos) (.prim .inv [i]) :=
  .plain ((pe_un unr_inv ha).imp fun σ H Q h => prim_of (G := fun vs H1 => rP X.K .inv vs H1 Q) h fun _ _ _ z => z) rfl
theorem je_cmp (hu : X.A.units + 64 < cLine) {op : CmpOp} {p : P} {a b : Expr} {i j : E} {pos : Pos} (hp : cmpP op = some p) (hm : behindInMarks op b = false) (ha : PE X a (tO X.K ex C W i)) (hb : PE X b (tO X.K ex C W j)) : JE X ex C W (.Compare a [op] [b] pos) (.prim p [i, j]) :=
  ⟨(pe_cmpR (opr_cmp hu hp) ha hb hm).imp fun σ H Q h => prim_of (G := fun vs H1 => rP X.K p vs H1 Q) h fun _ _ _ z => z,
   (pt_cmpR (opr_cmp hu hp) ha hb hm).imp fun σ H Q h => prim_of (G := fun vs H1 => rP X.K p vs H1 fun x H' => ∃ k, x = .bl k ∧ Q k H') h fun _ _ _ z => z,
   fun _ _ _ z => by cases z⟩
theorem je_is {op : CmpOp} {p : P} {a b : Expr} {i : E} {pos : Pos} (hp : isP op b = some p) (ha : PE X a (tO X.K ex C W i)) : JE X ex C W (.Compare a [op] [b] pos) (.prim p [i]) :=
  ⟨(pe_isP hp ha).1.imp fun σ H Q h => prim_of (G := fun vs H1 => rP X.K p vs H1 Q) h fun _ _ _ z => z,
   (pe_isP hp ha).2.imp fun σ H Q h => prim_of (G := fun vs H1 => rP X.K p vs H1 fun x H' => ∃ k, x = .bl k ∧ Q k H') h fun _ _ _ z => z,
   fun _ _ _ z => by cases z⟩
theorem plainIx_of {b : Expr} (h : ∀ l u s p, b ≠ .Slice l u s p) : PlainIx b := by
  intro o i
  cases b with
  | Slice l u s p => exact absurd rfl (h l u s p)
  | _ => rfl
theorem je_idx {a b : Expr} {i j : E} {pos : Pos} (hs : ∀ l u s p, b ≠ .Slice l u s p) (ha : PE X a (tO X.K ex C W i)) (hb : PE X b (tO X.K ex C W j)) : JE X ex C W (.Subscript a b pos) (.prim .idx [i, j]) :=
  .plain ((pe_ix ixr_idx ha hb (plainIx_of hs)).imp fun σ H Q h => prim_of (G := fun vs H1 => rP X.K .idx vs H1 Q) h fun _ _ _ z => z) rfl
/-! ### slices -/
theorem asI_some {d : D} {i : Int} (h : asI d = some i) : d = .int i := by
  unfold asI at h
  split at h
  · cases h; rfl
  · cases h
theorem slc1 {st : Sto} {d : D} {r : R} (h : pfS st (.slc false false) [d] = some r) : slcD none none d = some r := h
theorem slc2a {st : Sto} {d e : D} {r : R} (h : pfS st (.slc true false) [d, e] = some r) : ∃ i, e = .int i ∧ slcD (some i) none d = some r := by
  have h : (asI e).bind (fun i => slcD (some i) none d) = some r := h
  obtain ⟨i, h1, h2⟩ := Option.bind_eq_some_iff.mp h
  exact ⟨i, asI_some h1, h2⟩
theorem slc2b {st : Sto} {d e : D} {r : R} (h : pfS st (.slc false true) [d, e] = some r) : ∃ i, e = .int i ∧ slcD none (some i) d = some r := by
  have h : (asI e).bind (fun i => slcD none (some i) d) = some r := h
  obtain ⟨i, h1, h2⟩ := Option.bind_eq_some_iff.mp h
  exact ⟨i, asI_some h1, h2⟩
theorem slc3 {st : Sto} {d e f : D} {r : R} (h : pfS st (.slc true true) [d, e, f] = some r) : ∃ i j, e = .int i ∧ f = .int j ∧ slcD (some i) (some j) d = some r := by
  have h : (asI e).bind (fun i => (asI f).bind fun j => slcD (some i) (some j) d) = some r := h
  obtain ⟨i, h1, h2⟩ := Option.bind_eq_some_iff.mp h
  obtain ⟨j, h3, h4⟩ := Option.bind_eq_some_iff.mp h2
  exact ⟨i, j, asI_some h1, asI_some h3, h4⟩
/-- lo or hi of a slice, and its operand -/
inductive PartO (X : Cx) (ex : Nat → Addr × Str) (C : CallF) (W : WX) : Option Expr → List E → Prop
  | no : PartO X ex C W none []
  | yes {e : Expr} {o : E} (h : PE X e (tO X.K ex C W o)) : PartO X ex C W (some e) [o]
def G1 (k : V → Hp → Prop) : List V → Hp → Prop := fun vs H => match vs with
  | [x] => k x H
  | _ => True
def G2 (k : V → V → Hp → Prop) : List V → Hp → Prop := fun vs H => match vs with
  | [x, y] => k x y H
  | _ => True
def G3 (k : V → V → V → Hp → Prop) : List V → Hp → Prop := fun vs H => match vs with
  | [x, y, z] => k x y z H
  | _ => True
theorem rSl_of {p : P} {x : V} {vs : List V} {H : Hp} {Q : VK} {lo hi : Option Int} (h : rP X.K p (x :: vs) H Q) (hk : ∀ st d ds r P ι, RBs X.K P ι H vs ds → pfS st p (d :: ds) = some r → slcD lo hi d = some r) : rSlD X.K x lo hi H Q := by
  obtain ⟨Ω, ι, ow, env, st, σ, ds, r, R, rb, hp, q⟩ := h
  cases rb with
  | cons b t => exact ⟨Ω, ι, ow, env, st, σ, _, r, R, b, hk _ _ _ _ _ _ t hp, q⟩
theorem je_slc {a : Expr} {i : E} {lo hi : Option Expr} {l h : List E} {pos p2 : Pos} (ha : PE X a (tO X.K ex C W i)) (hl : PartO X ex C W lo l) (hh : PartO X ex C W hi h) (hn : (!(lo.isSome && hi.isSome)) = true) :
    JE X ex C W (.Subscript a (.Slice lo hi none p2) pos) (.prim (.slc lo.isSome hi.isSome) (i :: (l ++ h))) := by
  cases hl with
  | no =>
    cases hh with
    | no =>
      refine .plain ((pe_slice slr_D ha po_none po_none).imp fun σ H Q h => prim_of (G := G1 fun x H1 => rSlD X.K x none none H1 Q) h fun vs H1 hl z => ?_) rfl
      match vs, hl with
      | [x], _ =>
        refine rSl_of z fun st d ds r P ι t e => ?_
        cases t
        exact slc1 e
    | yes h2 =>
      refine .plain ((pe_slice slr_D ha po_none (po_some h2)).imp fun σ H Q h => prim_of (G := G2 fun x y H1 => ∃ i, y = .int i ∧ rSlD X.K x none (some i) H1 Q) h fun vs H1 hl z => ?_) rfl
      match vs, hl with
      | [x, y], _ =>
        obtain ⟨Ω, ι, ow, env, st, σ, ds, r, R, rb, hp, q⟩ := z
        obtain ⟨d, e, rfl, bx, by'⟩ := rb.two
        obtain ⟨i, rfl, hs⟩ := slc2b hp
        exact ⟨i, by'.int, Ω, ι, ow, env, st, σ, d, r, R, bx, hs, q⟩
  | yes h1 =>
    cases hh with
    | no =>
      refine .plain ((pe_slice slr_D ha (po_some h1) po_none).imp fun σ H Q h => prim_of (G := G2 fun x y H1 => ∃ i, y = .int i ∧ rSlD X.K x (some i) none H1 Q) h fun vs H1 hl z => ?_) rfl
      match vs, hl with
      | [x, y], _ =>
        obtain ⟨Ω, ι, ow, env, st, σ, ds, r, R, rb, hp, q⟩ := z
        obtain ⟨d, e, rfl, bx, by'⟩ := rb.two
        obtain ⟨i, rfl, hs⟩ := slc2a hp
        exact ⟨i, by'.int, Ω, ι, ow, env, st, σ, d, r, R, bx, hs, q⟩
    | yes h2 => cases hn
/-! ### not, and, or, if: by bools -/
theorem asB_some {d : D} {b : Bool} (h : asB d = some b) : d = .bl b := by
  unfold asB at h
  split at h
  · cases h; rfl
  · cases h
/-- a bool has come -/
theorem bool_of {Ω : Addr → Prop} {ι : List Addr} {ow : Nat → Option Addr} {env' : EnvI} {st' : Sto} {σ : L2.St} {H H' : Hp} {r : R} {v : V} {b : Bool} (p : PostR X.K Ω ι ow H r env' st' σ v H') (h : asB r.1 = some b) :
    v = .bl b ∧ ∃ ι' ow', Fr ι ow H ι' ow' H' ∧ Rel X.K Ω ι' ow' env' st' σ H' := by
  obtain ⟨ι', ow', f, R', rv⟩ := p.weak
  rw [asB_some h] at rv
  cases rv
  exact ⟨rfl, ι', ow', f, R'⟩
theorem not_of' {i : E} {σ : L2.St} {H : Hp} {Q : VK} (h : TEm X.K ex W (evalE C (.not i)) σ H Q) : TEm X.K ex W (evalE C i) σ H fun v H1 => ∃ c, v = .bl c ∧ Q (.bl (!c)) H1 := by
  obtain ⟨Ω, ι, ow, env, st, R, hr⟩ := h
  refine TEm.of R (show Run X.K ex W Ω ι ow σ H (M.bind (evalE C i) (fun r => M.opt ((asB r.1).map fun b => pv (.bl (!b)))) env st) _ from hr) fun r env1 st1 v H1 p h1 => ?_
  obtain ⟨z, h2, h3⟩ := Run.opt h1
  obtain ⟨b, h4, rfl⟩ := Option.map_eq_some_iff.mp h2
  obtain ⟨rfl, ι', ow', f, R'⟩ := bool_of p h4
  exact ⟨b, rfl, h3 _ _ ((post_bl R' (!b)).trans f)⟩
theorem je_not {a : Expr} {i : E} {pos : Pos} (ha : JE X ex C W a i) : JE X ex C W (.UnaryOp .Not a pos) (.not i) :=
  ⟨(pe_not ha.pe).imp fun σ H Q h => not_of' h, (pt_not ha.pt).imp fun σ H Q h => by
    obtain ⟨Ω, ι, ow, env, st, R, hr⟩ := not_of' h
    exact ⟨Ω, ι, ow, env, st, R, hr.imp fun r e s z v H' p => by
      obtain ⟨c, h1, k, h2, h3⟩ := z v H' p
      cases h2
      exact ⟨c, h1, h3⟩⟩, fun _ _ _ z => by cases z⟩
theorem and_of {i j : E} {σ : L2.St} {H : Hp} {Q : VK} (h : TEm X.K ex W (evalE C (.and i j)) σ H Q) : TEm X.K ex W (evalE C i) σ H fun v H1 => ∃ c, v = .bl c ∧ if c = true then TEm X.K ex W (evalE C j) σ H1 Q else Q (.bl false) H1 := by
  obtain ⟨Ω, ι, ow, env, st, R, hr⟩ := h
  refine TEm.of R (show Run X.K ex W Ω ι ow σ H (M.bind (evalE C i) (fun r => match asB r.1 with | some true => evalE C j | some false => M.ret (pv (.bl false)) | none => fun _ _ => .stuck) env st) _ from hr) fun r env1 st1 v H1 p h1 => ?_
  cases e : asB r.1 with
  | none => rw [e] at h1; exact h1.elim
  | some b =>
    rw [e] at h1
    obtain ⟨rfl, ι', ow', f, R'⟩ := bool_of p e
    refine ⟨b, rfl, ?_⟩
    cases b with
    | true =>
      rw [if_pos rfl]
      exact ⟨Ω, ι', ow', env1, st1, R', (Run.shift f h1).imp fun r e s z v H' p => z v H' (p.trans f)⟩
    | false =>
      rw [if_neg Bool.false_ne_true]
      exact h1 _ _ ((post_bl R' false).trans f)
theorem or_of {i j : E} {σ : L2.St} {H : Hp} {Q : VK} (h : TEm X.K ex W (evalE C (.or i j)) σ H Q) : TEm X.K ex W (evalE C i) σ H fun v H1 => ∃ c, v = .bl c ∧ if c = true then Q (.bl true) H1 else TEm X.K ex W (evalE C j) σ H1 Q := by
  obtain ⟨Ω, ι, ow, env, st, R, hr⟩ := h
  refine TEm.of R (show Run X.K ex W Ω ι ow σ H (M.bind (evalE C i) (fun r => match asB r.1 with | some false => evalE C j | some true => M.ret (pv (.bl true)) | none => fun _ _ => .stuck) env st) _ from hr) fun r env1 st1 v H1 p h1 => ?_
  cases e : asB r.1 with
  | none => rw [e] at h1; exact h1.elim
  | some b =>
    rw [e] at h1
    obtain ⟨rfl, ι', ow', f, R'⟩ := bool_of p e
    refine ⟨b, rfl, ?_⟩
    cases b with
    | false =>
      rw [if_neg Bool.false_ne_true]
      exact ⟨Ω, ι', ow', env1, st1, R', (Run.shift f h1).imp fun r e s z v H' p => z v H' (p.trans f)⟩
    | true =>
      rw [if_pos rfl]
      exact h1 _ _ ((post_bl R' true).trans f)
theorem TEm.mono {m : M R} {σ : L2.St} {H : Hp} {Q Q' : VK} (h : TEm X.K ex W m σ H Q) (hq : ∀ v H', Q v H' → Q' v H') : TEm X.K ex W m σ H Q' := by
  obtain ⟨Ω, ι, ow, env, st, R, hr⟩ := h
  exact ⟨Ω, ι, ow, env, st, R, hr.imp fun r e s z v H' p => hq v H' (z v H' p)⟩
theorem je_and {a b : Expr} {r : List Expr} {i j : E} {pos : Pos} (ha : JE X ex C W a i) (hb : JE X ex C W (.BoolOp .And (b :: r) pos) j) : JE X ex C W (.BoolOp .And (a :: b :: r) pos) (.and i j) := by
  have w : PW X (.BoolOp .And (a :: b :: r) pos) (TTm X.K ex W (evalE C (.and i j))) := (pw_and ha.pt (hb.pw _ _ _ rfl)).imp fun σ H Q h => by
    refine (and_of h).mono fun v H' z => ?_
    obtain ⟨c, h1, h2⟩ := z
    refine ⟨c, h1, ?_⟩
    cases c with
    | true => rw [if_pos rfl] at h2 ⊢; exact h2
    | false =>
      rw [if_neg Bool.false_ne_true] at h2 ⊢
      obtain ⟨k, h3, h4⟩ := h2
      cases h3
      exact h4
  exact ⟨(pe_and ha.pe hb.pe).imp fun σ H Q h => and_of h, w.pt, fun _ _ _ _ => w⟩
theorem je_or {a b : Expr} {r : List Expr} {i j : E} {pos : Pos} (ha : JE X ex C W a i) (hb : JE X ex C W (.BoolOp .Or (b :: r) pos) j) : JE X ex C W (.BoolOp .Or (a :: b :: r) pos) (.or i j) := by
  have w : PW X (.BoolOp .Or (a :: b :: r) pos) (TTm X.K ex W (evalE C (.or i j))) := (pw_or ha.pt (hb.pw _ _ _ rfl)).imp fun σ H Q h => by
    refine (or_of h).mono fun v H' z => ?_
    obtain ⟨c, h1, h2⟩ := z
    refine ⟨c, h1, ?_⟩
    cases c with
    | false => rw [if_neg Bool.false_ne_true] at h2 ⊢; exact h2
    | true =>
      rw [if_pos rfl] at h2 ⊢
      obtain ⟨k, h3, h4⟩ := h2
      cases h3
      exact h4
  exact ⟨(pe_or ha.pe hb.pe).imp fun σ H Q h => or_of h, w.pt, fun _ _ _ _ => w⟩
theorem je_one {op : BoolOp} {a : Expr} {i : E} {pos : Pos} (ha : JE X ex C W a i) : JE X ex C W (.BoolOp op [a] pos) i := by
  have w : PW X (.BoolOp op [a] pos) (TTm X.K ex W (evalE C i)) := by
    cases op
    · exact pw_and1 ha.pt
    · exact pw_or1 ha.pt
  exact ⟨pe_one ha.pe, w.pt, fun _ _ _ _ => w⟩
theorem ite_of {k i j : E} {σ : L2.St} {H : Hp} {Q : VK} (h : TEm X.K ex W (evalE C (.ite k i j)) σ H Q) : TEm X.K ex W (evalE C k) σ H fun v H1 => ∃ c, v = .bl c ∧ if c = true then TEm X.K ex W (evalE C i) σ H1 Q else TEm X.K ex W (evalE C j) σ H1 Q := by
  obtain ⟨Ω, ι, ow, env, st, R, hr⟩ := h
  refine TEm.of R (show Run X.K ex W Ω ι ow σ H (M.bind (evalE C k) (fun r => match asB r.1 with | some true => evalE C i | some false => evalE C j | none => fun _ _ => .stuck) env st) _ from hr) fun r env1 st1 v H1 p h1 => ?_
  cases e : asB r.1 with
  | none => rw [e] at h1; exact h1.elim
  | some b =>
    rw [e] at h1
    obtain ⟨rfl, ι', ow', f, R'⟩ := bool_of p e
    refine ⟨b, rfl, ?_⟩
    cases b with
    | true =>
      rw [if_pos rfl]
      exact ⟨Ω, ι', ow', env1, st1, R', (Run.shift f h1).imp fun r e s z v H' p => z v H' (p.trans f)⟩
    | false =>
      rw [if_neg Bool.false_ne_true]
      exact ⟨Ω, ι', ow', env1, st1, R', (Run.shift f h1).imp fun r e s z v H' p => z v H' (p.trans f)⟩
theorem pt_ifExp {c a b : Expr} {pos : Pos} {tc ta tb : TT} (hc : PT X c tc) (ha : PT X a ta) (hb : PT X b tb) : PT X (.IfExp c a b pos) (fun σ H Q => tc σ H fun d H1 => if d = true then ta σ H1 Q else tb σ H1 Q) := by
  refine ⟨fun pins s σ H Q I h => ?_⟩
  refine isTrue_IfExp (thn (hc.run pins s σ H _ I h) fun d s1 ⟨H1, I1, q1⟩ => ?_)
  cases d with
  | true => exact ha.run pins s1 σ H1 Q I1 q1
  | false => exact hb.run pins s1 σ H1 Q I1 q1
theorem je_ite {c a b : Expr} {k i j : E} {pos : Pos} (hc : JE X ex C W c k) (ha : JE X ex C W a i) (hb : JE X ex C W b j) : JE X ex C W (.IfExp c a b pos) (.ite k i j) := by
  refine ⟨(pe_ifExp hc.pt ha.pe hb.pe).imp fun σ H Q h => ite_of h, (pt_ifExp hc.pt ha.pt hb.pt).imp fun σ H Q h => ?_, fun _ _ _ z => by cases z⟩
  refine (ite_of h).mono fun v H' z => ?_
  exact z
end
end IP

set_option Elab.async false
set_option linter.all false
set_option maxRecDepth 100000
set_option maxHeartbeats 2000000
namespace IP
open PySem PySem.Spec PyProof.Rows L2
section
variable {K : PySem.W.Frag} {Ω : Addr → Prop} {ι : List Addr} {ow : Nat → Option Addr} {env : EnvI} {st : Sto} {σ : L2.St} {H : Hp}
/-! ### writing -/
theorem tr_write {a : Addr} {o : HO} (h : Prot Ω ι ow a) : Tr (Prot Ω ι ow) (Prot Ω ι ow) ι ι H (upd H a o) :=
  ⟨fun b u e n => by rw [upd_ne (fun z => by subst z; exact n h)]; exact e, fun _ _ _ z => z, fun _ _ z => z⟩
/-- a slot's own list is written -/
theorem Rel.setOwn (R : Rel K Ω ι ow env st σ H) {i : Nat} {a : Addr} {ds ds' : List D} {ys : List V} (h : env[i]? = some (.own ds)) (ha : ow i = some a) (r : RVs K (Prot Ω ι ow) ι H ys ds') :
    Rel K Ω ι ow (env.set i (.own ds')) st σ (upd H a (.lst ys)) ∧ Fr ι ow H ι ow (upd H a (.lst ys)) := by
  have hi : i < env.length := (List.getElem?_eq_some_iff.mp h).1
  have pa : Prot Ω ι ow a := .inr (.inr ⟨i, ha⟩)
  have tr : Tr (Prot Ω ι ow) (Prot Ω ι ow) ι ι H (upd H a (.lst ys)) := tr_write pa
  have nio : a ∉ ι := R.owio i a ha
  obtain ⟨xs0, hxs⟩ := R.ow_trk ha
  obtain ⟨a2, _, q1, q2, _⟩ := R.owns i ds h
  rw [ha] at q1; cases q1
  refine ⟨⟨by rw [List.length_set]; exact R.len, R.slen, R.nodup, R.disj, fun b z => ?_, R.owio, R.inj, fun j b z => ?_, fun j d e => ?_, fun j es e => ?_, fun k es e => ?_⟩, ⟨fun _ _ z => z, fun b o e _ h2 => ?_, fun b o e => ?_, fun _ _ _ z => z⟩⟩
  · obtain ⟨o, e⟩ := R.trk b z
    exact ⟨o, by rw [upd_ne (fun q => by subst q; exact (R.disj b z).2 i ha)]; exact e⟩
  · by_cases e : j = i
    · subst e
      exact ⟨ds', List.getElem?_set_self hi⟩
    · obtain ⟨es, q⟩ := R.owsl j b z
      exact ⟨es, by rw [List.getElem?_set_ne (Ne.symm e)]; exact q⟩
  · by_cases ej : j = i
    · subst ej
      rw [List.getElem?_set_self hi] at e; cases e
    · rw [List.getElem?_set_ne (Ne.symm ej)] at e
      obtain ⟨v, h1, h2⟩ := R.vals j d e
      exact ⟨v, h1, h2.tr tr⟩
  · by_cases ej : j = i
    · subst ej
      rw [List.getElem?_set_self hi] at e; cases e
      exact ⟨a, ys, ha, q2, upd_same, r.tr tr⟩
    · rw [List.getElem?_set_ne (Ne.symm ej)] at e
      obtain ⟨b, xs, h1, h2, h3, h4⟩ := R.owns j es e
      exact ⟨b, xs, h1, h2, by rw [upd_ne (fun z : b = a => ej (R.inj j i b h1 (by rw [z]; exact ha)))]; exact h3, h4.tr tr⟩
  · obtain ⟨b, h1, h2⟩ := R.boxs k es e
    exact ⟨b, h1, h2.tr tr fun o e => by rw [upd_ne (fun z => nio (by rw [← z]; exact List.mem_of_getElem? h1))]; exact e⟩
  · rw [upd_ne (fun z => h2 i (by rw [z]; exact ha))]; exact e
  · by_cases z : b = a
    · subst z; exact ⟨_, upd_same⟩
    · exact ⟨o, by rw [upd_ne z]; exact e⟩
/-- a boxed object is written -/
theorem Rel.setBox (R : Rel K Ω ι ow env st σ H) {k : Nat} {a : Addr} {bx : Bx} {ho : HO} (hk : k < st.length) (ha : ι[k]? = some a) (r : Tr (Prot Ω ι ow) (Prot Ω ι ow) ι ι H (upd H a ho) → RBx K (Prot Ω ι ow) ι (upd H a ho) a bx) :
    Rel K Ω ι ow env (st.set k bx) σ (upd H a ho) ∧ Fr ι ow H ι ow (upd H a ho) := by
  have ma : a ∈ ι := List.mem_of_getElem? ha
  have tr : Tr (Prot Ω ι ow) (Prot Ω ι ow) ι ι H (upd H a ho) := tr_write (.inr (.inl ma))
  refine ⟨⟨R.len, by rw [List.length_set]; exact R.slen, R.nodup, R.disj, fun b z => ?_, R.owio, R.inj, R.owsl, fun j d e => ?_, fun j es e => ?_, fun j es e => ?_⟩, ⟨fun _ _ z => z, fun b o e h1 _ => ?_, fun b o e => ?_, fun _ _ _ z => z⟩⟩
  · obtain ⟨o, e⟩ := R.trk b z
    exact ⟨o, by rw [upd_ne (fun q => by subst q; exact (R.disj b z).1 ma)]; exact e⟩
  · obtain ⟨v, h1, h2⟩ := R.vals j d e
    exact ⟨v, h1, h2.tr tr⟩
  · obtain ⟨b, xs, h1, h2, h3, h4⟩ := R.owns j es e
    exact ⟨b, xs, h1, h2, by rw [upd_ne (fun z => R.owio j b h1 (by rw [z]; exact ma))]; exact h3, h4.tr tr⟩
  · by_cases ej : j = k
    · subst ej
      rw [List.getElem?_set_self hk] at e; cases e
      exact ⟨a, ha, r tr⟩
    · rw [List.getElem?_set_ne (Ne.symm ej)] at e
      obtain ⟨b, h1, h2⟩ := R.boxs j es e
      refine ⟨b, h1, h2.tr tr fun o eo => ?_⟩
      rw [upd_ne (fun z => ?_)]
      · exact eo
      · subst z
        obtain ⟨l1, e1⟩ := List.getElem?_eq_some_iff.mp h1
        obtain ⟨l2, e2⟩ := List.getElem?_eq_some_iff.mp ha
        exact ej ((List.getElem_inj R.nodup).mp (e1.trans e2.symm))
  · rw [upd_ne (fun z => h1 (by rw [z]; exact ma))]; exact e
  · by_cases z : b = a
    · subst z; exact ⟨_, upd_same⟩
    · exact ⟨o, by rw [upd_ne z]; exact e⟩
/-! ### into a call and back -/
def inΩ (Ω : Addr → Prop) (ow : Nat → Option Addr) : Addr → Prop := fun a => Ω a ∨ ∃ i, ow i = some a
theorem prot_in {a : Addr} : Prot (inΩ Ω ow) ι noow a ↔ Prot Ω ι ow a := by
  constructor
  · intro z
    rcases z with (z | z) | z | ⟨i, z⟩
    · exact .inl z
    · exact .inr (.inr z)
    · exact .inr (.inl z)
    · cases z
  · intro z
    rcases z with z | z | z
    · exact .inl (.inl z)
    · exact .inr (.inl z)
    · exact .inl (.inr z)
theorem Rel.enter (R : Rel K Ω ι ow env st σ H) : Rel K (inΩ Ω ow) ι noow [] st [] H := by
  have tr : Tr (Prot Ω ι ow) (Prot (inΩ Ω ow) ι noow) ι ι H H := .less fun a z => prot_in.mp z
  refine ⟨rfl, R.slen, R.nodup, fun a z => ⟨?_, fun i q => (by cases q)⟩, fun a z => ?_, fun i a z => (by cases z), fun i j a z => (by cases z), fun i a z => (by cases z), fun i d e => (by simp at e), fun i d e => (by simp at e), fun k ds e => ?_⟩
  · rcases z with z | ⟨i, z⟩
    · exact (R.disj a z).1
    · exact R.owio i a z
  · exact R.prot_trk (prot_in.mp (.inl z))
  · obtain ⟨a, h1, h2⟩ := R.boxs k ds e
    exact ⟨a, h1, h2.tr tr fun _ e => e⟩
/-- no slots, no own lists -/
theorem Rel.noowE {Ω : Addr → Prop} {ow' : Nat → Option Addr} (R : Rel K Ω ι ow' [] st [] H) : ow' = IP.noow := by
  funext i
  cases e : ow' i with
  | none => rfl
  | some a =>
    obtain ⟨ds, q⟩ := R.owsl i a e
    simp at q
theorem Rel.leave {ι' : List Addr} {st' : Sto} {H' : Hp} {Ω2 : Addr → Prop} (R : Rel K Ω ι ow env st σ H) (f : Fr ι IP.noow H ι' IP.noow H') (R' : Rel K Ω2 ι' IP.noow [] st' [] H') (hΩ : ∀ a, inΩ Ω ow a → Ω2 a) (hn : ∀ a, Ω2 a → inΩ Ω ow a ∨ H a = none) :
    ∀ Ω3 : Addr → Prop, (∀ a, Ω a → Ω3 a) → (∀ a, Ω3 a → Ω2 a ∧ ∀ i, ow i ≠ some a) → (∀ a, Ω2 a → Ω3 a ∨ ∃ i, ow i = some a) → Rel K Ω3 ι' ow env st' σ H' ∧ Fr ι ow H ι' ow H' := by
  intro Ω3 h3 h4 h5
  have fr : Fr ι ow H ι' ow H' := ⟨f.pre, fun a o e h1 _ => f.keep a o e h1 (fun i z => (by cases z)), f.dom, fun a o e z => by
    rcases z with z | z
    · rcases f.new a o e (.inl z) with q | ⟨i, q⟩
      · exact .inl q
      · cases q
    · exact .inr z⟩
  have tr : Tr (Prot Ω ι ow) (Prot Ω3 ι' ow) ι ι' H H' := ⟨fr.tr.keep, fun a o e z => by
    rcases z with z | z
    · rcases hn a (h4 a z).1 with q | q
      · exact prot_in.mp (.inl q)
      · rw [q] at e; cases e
    · exact .inr (fr.new a o e z), f.pre⟩
  have tr2 : Tr (Prot Ω2 ι' IP.noow) (Prot Ω3 ι' ow) ι' ι' H' H' := .less fun a z => by
    rcases z with z | z | z
    · exact .inl (h4 a z).1
    · exact .inr (.inl z)
    · exact .inl (hΩ a (.inr z))
  refine ⟨⟨R.len, R'.slen, R'.nodup, fun a z => ⟨(R'.disj a (h4 a z).1).1, (h4 a z).2⟩, fun a z => R'.trk a (h4 a z).1, fun i a z => (R'.disj a (hΩ a (.inr ⟨i, z⟩))).1, R.inj, R.owsl, fun i d e => ?_, fun i ds e => ?_, fun k ds e => ?_⟩, fr⟩
  · obtain ⟨v, h1, h2⟩ := R.vals i d e
    exact ⟨v, h1, h2.tr tr⟩
  · obtain ⟨a, xs, h1, h2, h3, h4⟩ := R.owns i ds e
    exact ⟨a, xs, h1, h2, f.keep a _ h3 (R.owio i a h1) (fun j z => (by cases z)), h4.tr tr⟩
  · obtain ⟨a, h1, h2⟩ := R'.boxs k ds e
    exact ⟨a, h1, h2.tr tr2 fun _ e => e⟩
theorem Rel.leaveE {ι' : List Addr} {ow' : Nat → Option Addr} {st' : Sto} {H' : Hp} (R : Rel K Ω ι ow env st σ H) (f : Fr ι IP.noow H ι' ow' H') (R' : Rel K (inΩ Ω ow) ι' ow' [] st' [] H') :
    Rel K Ω ι' ow env st' σ H' ∧ Fr ι ow H ι' ow H' ∧ ∀ a, Prot Ω ι' ow a ↔ Prot (inΩ Ω ow) ι' ow' a := by
  have e := R'.noowE
  subst e
  obtain ⟨h1, h2⟩ := R.leave f R' (fun _ z => z) (fun _ z => .inl z) Ω (fun _ z => z) (fun a z => ⟨.inl z, (R.disj a z).2⟩) fun _ z => z
  exact ⟨h1, h2, fun a => prot_in.symm⟩
theorem PostR.leave {ι' : List Addr} {ow' : Nat → Option Addr} {st' : Sto} {H' : Hp} {r : R} {v : V} (R : Rel K Ω ι ow env st σ H) (p : PostR K (inΩ Ω ow) ι IP.noow H r [] st' [] v H') : PostR K Ω ι ow H r env st' σ v H' := by
  have pE : ∀ d, PostE K (inΩ Ω ow) ι IP.noow H d [] st' [] v H' → PostE K Ω ι ow H d env st' σ v H' := fun d p => by
    obtain ⟨ι', ow', f, R', rv⟩ := p
    obtain ⟨h1, h2, h3⟩ := R.leaveE f R'
    exact ⟨ι', ow, h2, h1, rv.tr (.less fun a z => (h3 a).mp z)⟩
  have pF : ∀ ds, PostF K (inΩ Ω ow) ι IP.noow H ds [] st' [] v H' → PostF K Ω ι ow H ds env st' σ v H' := fun ds p => by
    obtain ⟨ι', ow', q, xs, f, e1, e2, e3, e4, R', rv⟩ := p
    have e := R'.noowE
    subst e
    have nq : ∀ i, ow i ≠ some q := fun i z => e2 (.inr ⟨i, z⟩)
    obtain ⟨h1, h2⟩ := R.leave f R' (fun _ z => .inl z) (fun a z => by
      rcases z with z | z
      · exact .inl z
      · subst z; exact .inr e3) (addp Ω q) (fun _ z => .inl z) (fun a z => by
      rcases z with z | z
      · exact ⟨.inl (.inl z), (R.disj a z).2⟩
      · subst z; exact ⟨.inr rfl, nq⟩) fun a z => by
      rcases z with (z | z) | z
      · exact .inl (.inl z)
      · exact .inr z
      · exact .inl (.inr z)
    refine ⟨ι', ow, q, xs, h2, e1, fun z => e2 (.inl z), e3, e4, h1, rv.tr (.less fun a z => ?_)⟩
    rcases z with (z | z) | z | z
    · exact .inl (.inl (.inl z))
    · exact .inl (.inr z)
    · exact .inr (.inl z)
    · exact .inl (.inl (.inr z))
  obtain ⟨d, b⟩ := r
  cases b
  · cases d <;> exact pE _ p
  · cases d <;> first | exact pE _ p | exact pF _ p
theorem PostX.leave {ex : Nat → Addr × Str} {st' : Sto} {H' : Hp} {x : Exc} {cls : Value} {dd : Option Addr} (R : Rel K Ω ι ow env st σ H) (p : PostX K ex (inΩ Ω ow) ι IP.noow H x [] st' [] cls dd H') : PostX K ex Ω ι ow H x env st' σ cls dd H' := by
  obtain ⟨ι', ow', f, R', h⟩ := p
  obtain ⟨h1, h2, h3⟩ := R.leaveE f R'
  refine ⟨ι', ow, h2, h1, h.1, ?_⟩
  have h4 := h.2
  cases e : x.a with
  | none => trivial
  | some d =>
    rw [e] at h4
    obtain ⟨ad, v, q1, q2, q3⟩ := h4
    exact ⟨ad, v, q1, q2, q3.tr (.less fun a z => (h3 a).mp z)⟩
end
section
variable {g : G} {ex : Nat → Addr × Str} {C : CallF} {cn : Cn} {X : Cx} {W : WX}
theorem je_call (c : Ctx g ex C cn X) (tk : Takes X W) {x : Str} {f : Nat} {es : List Expr} {os : List E} {p pos : Pos} (hg : glN cn x = true) (hp : plainName x = true) (hf : g.fns.lookup x = some f) (hne : es ≠ [])
    (hs : ∀ e ∈ es, ∀ a p, e ≠ .Starred a p) (ha : PA X es (tOs X.K ex C W os)) (hpl : ∀ pos, ∀ l, l <:+ es → (backTo pos (starEach l X.env)).any (·.1) = false) (hb : os.all E.notBor = true) :
    JE X ex C W (.Call (.Name x p) es [] pos) (.call f os) := by
  obtain ⟨a, fd, k, ps, h1, F⟩ := c.fns x f hf
  cases es with
  | nil => exact absurd rfl hne
  | cons e es =>
    refine .plain ((pe_callS F.ok F.room (c.gl hg) h1 F.kp F.bd (fun σ => passAt tk σ) ha (plain_names hp).1 (star_plain (hs e List.mem_cons_self) es X.env) (hpl pos es (List.suffix_cons e es))).imp fun σ H Q h => ?_) rfl
    obtain ⟨Ω, ι, ow, env, st, R, hr⟩ := h
    refine ops_of os R (show Run X.K ex W Ω ι ow σ H (M.bind (evalOs C os) (fun ds => M.call C f ds) env st) _ from hr) fun ds env1 st1 vs H1 ι1 ow1 f1 R1 ro h1 => ?_
    refine ⟨inΩ Ω ow1, ι1, ds, st1, R1.enter, (ro.rv hb).tr (.less fun a z => prot_in.mp z), ?_⟩
    have h2 : Run X.K ex W Ω ι1 ow1 σ H1 (M.call C f ds env1 st1) _ := h1
    unfold M.call at h2
    cases e : C f ds st1 with
    | ok d fr st' =>
      rw [e] at h2
      exact fun v H' p => h2 v H' ((PostR.leave (ι' := ι1) (ow' := ow1) R1 p).trans f1)
    | err y st' =>
      rw [e] at h2
      exact fun cls dd H' p => h2 cls dd H' (p.leave R1)
    | stuck => rw [e] at h2; exact h2
end
end IP

set_option Elab.async false
set_option linter.all false
set_option maxRecDepth 100000
set_option maxHeartbeats 2000000
namespace IP
open PySem PySem.Spec PyProof.Rows L2
section
variable {g : G} {ex : Nat → Addr × Str} {C : CallF} {cn : Cn} {X : Cx} {W : WX}
/-! ### chains -/
/-- the answer of a comparison, looked at -/
theorem link_of {Ω : Addr → Prop} {ι : List Addr} {ow : Nat → Option Addr} {env : EnvI} {st : Sto} {σ : L2.St} {H : Hp} {p : P} {x y : V} {d e : D} {A : M R} {Qf : R → EnvI → Sto → Prop} {Gk : Bool → Hp → Prop} (R : Rel X.K Ω ι ow env st σ H) (bx : RB X.K (Prot Ω ι ow) ι H x d) (by' : RB X.K (Prot Ω ι ow) ι H y e)
    (h : Run X.K ex W Ω ι ow σ H (M.bind (fun env st => M.opt (pfS st p [d, e]) env st) (fun z => match asB z.1 with | some true => A | some false => M.ret (pv (.bl false)) | none => fun _ _ => .stuck) env st) Qf)
    (ht : ∀ ι' ow' H', Fr ι ow H ι' ow' H' → Rel X.K Ω ι' ow' env st σ H' → Run X.K ex W Ω ι' ow' σ H' (A env st) Qf → Gk true H')
    (hf : ∀ ι' ow' H', Fr ι ow H ι' ow' H' → Rel X.K Ω ι' ow' env st σ H' → Qf (pv (.bl false)) env st → Gk false H') : rP X.K p [x, y] H fun z H3 => ∃ k, z = .bl k ∧ Gk k H3 := by
  have h1 := h.bind
  obtain ⟨z, h2, h3⟩ := Run.opt h1
  refine ⟨Ω, ι, ow, env, st, σ, [d, e], z, R, .cons bx (.cons by' .nil), h2, fun v H' p => ?_⟩
  cases q : asB z.1 with
  | none => rw [q] at h3; exact h3.elim
  | some b =>
    rw [q] at h3
    obtain ⟨rfl, ι', ow', f, R'⟩ := bool_of p q
    refine ⟨b, rfl, ?_⟩
    cases b with
    | true => exact ht ι' ow' H' f R' (Run.shift f h3)
    | false => exact hf ι' ow' H' f R' h3
theorem chain_rd {p q : P} {i j k : E} {σ : L2.St} {H : Hp} {Q : VK} (h : TEm X.K ex W (evalE C (.chain p q i j k)) σ H Q) :
    tChain (fun x y => rP X.K p [x, y]) (fun x y => rP X.K q [x, y]) (TEm X.K ex W (evalE C i)) (TEm X.K ex W (evalE C j)) (TEm X.K ex W (evalE C k)) σ H Q := by
  obtain ⟨Ω, ι, ow, env, st, R, hr⟩ := h
  refine TEm.of R (show Run X.K ex W Ω ι ow σ H (M.bind (evalE C i) (fun x => M.bind (evalE C j) fun y => M.bind (fun env st => M.opt (pfS st p [x.1, y.1]) env st) fun z => match asB z.1 with | some true => M.bind (evalE C k) fun w env st => M.opt (pfS st q [y.1, w.1]) env st | some false => M.ret (pv (.bl false)) | none => fun _ _ => .stuck) env st) _ from hr) fun x env1 st1 vx H1 p1 h1 => ?_
  obtain ⟨ι1, ow1, f1, R1, rx⟩ := p1.weak
  refine TEm.of R1 (Run.shift f1 h1) fun y env2 st2 vy H2 p2 h2 => ?_
  obtain ⟨ι2, ow2, f2, R2, ry⟩ := p2.weak
  refine link_of R2 (.inl (rx.tr f2.tr)) (.inl ry) (Run.shift f2 h2) (fun ι3 ow3 H3 f3 R3 h3 => ?_) (fun ι3 ow3 H3 f3 R3 h3 => ?_)
  · rw [if_pos rfl]
    refine TEm.of R3 h3 fun w env4 st4 vw H4 p4 h4 => ?_
    obtain ⟨ι4, ow4, f4, R4, rw4⟩ := p4.weak
    obtain ⟨z, h5, h6⟩ := Run.opt h4
    exact ⟨Ω, ι4, ow4, env4, st4, σ, [y.1, w.1], z, R4, .cons (.inl ((ry.tr f3.tr).tr f4.tr)) (.cons (.inl rw4) .nil), h5, fun v H' p => h6 v H' (p.trans (((f1.trans f2).trans f3).trans f4))⟩
  · rw [if_neg Bool.false_ne_true]
    exact h3 _ _ ((post_bl R3 false).trans ((f1.trans f2).trans f3))
theorem je_chain (hu : X.A.units + 64 < cLine) {op op' : CmpOp} {p q : P} {a b d : Expr} {i j k : E} {pos : Pos} (hp : cmpP op = some p) (hq : cmpP op' = some q) (hm : lastMarks [op, op'] [b, d] = false) (ha : JE X ex C W a i) (hb : JE X ex C W b j) (hd : JE X ex C W d k) :
    JE X ex C W (.Compare a [op, op'] [b, d] pos) (.chain p q i j k) :=
  ⟨(pe_chain (opr_cmp hu hp) (opr_cmp hu hq) ha.pe hb.pe hd.pe hm).imp fun σ H Q h => chain_rd h, (pt_chain (opr_cmp hu hp) (opr_cmp hu hq) ha.pe hb.pe hd.pe hm).imp fun σ H Q h => chain_rd h, fun _ _ _ z => by cases z⟩
def tChain3 (r r' r2 : R2) (ta tb tc td : TE) : TE := fun σ H Q => ta σ H fun x H1 => tb σ H1 fun y H2 => r x y H2 fun z H3 => ∃ k, z = .bl k ∧
  (if k = true then tc σ H3 fun w H4 => r' y w H4 fun z' H5 => ∃ k', z' = .bl k' ∧ (if k' = true then td σ H5 fun w' H6 => r2 w w' H6 Q else Q (.bl false) H5) else Q (.bl false) H3)
theorem pe_chain3 {a b c d : Expr} {ta tb tc td : TE} {pos : Pos} {op op' op2 : CmpOp} {r r' r2 : R2} (ho : OpR X (compareOp op) r) (ho' : OpR X (compareOp op') r') (ho2 : OpR X (compareOp op2) r2) (ha : PE X a ta) (hb : PE X b tb) (hc : PE X c tc) (hd : PE X d td)
    (hm : lastMarks [op, op', op2] [b, c, d] = false) : PE X (.Compare a [op, op', op2] [b, c, d] pos) (tChain3 r r' r2 ta tb tc td) := by
  refine ⟨fun pins s σ H Q I h => ?_⟩
  refine Compare_chain (thn (ha.run pins s σ H _ I h) fun v s1 ⟨x, H1, I1, r1, q1⟩ => chain_link (thn (hb.run pins s1 σ H1 _ I1 q1) fun u s2 ⟨y, H2, I2, r2, q2⟩ =>
    thn (ho pins s2 σ H2 x y v u _ I2 r1 r2 q2) fun d' s3 ⟨z, H3, I3, r3, k, e, q3⟩ => ?_)) hm
  subst e
  cases r3
  refine wpAny_truthy_bool ?_
  cases k with
  | false => exact ite_ff ⟨.bl false, H3, I3, rfl, q3⟩
  | true =>
    refine ite_tt (chain_link (thn (hc.run pins s3 σ H3 _ I3 q3) fun w' s4 ⟨z', H4, I4, r4, q4⟩ => thn (ho' pins s4 σ H4 y z' u w' _ I4 r2 r4 q4) fun d2 s5 ⟨z2, H5, I5, r5, k2, e2, q5⟩ => ?_))
    subst e2
    cases r5
    refine wpAny_truthy_bool ?_
    cases k2 with
    | false => exact ite_ff ⟨.bl false, H5, I5, rfl, q5⟩
    | true => exact ite_tt (chain_last (thn (hd.run pins s5 σ H5 _ I5 q5) fun w2 s6 ⟨z3, H6, I6, r6, q6⟩ => ho2 pins s6 σ H6 z' z3 w' w2 Q I6 r4 r6 q6))
theorem pt_chain3 {a b c d : Expr} {ta tb tc td : TE} {pos : Pos} {op op' op2 : CmpOp} {r r' r2 : R2} (ho : OpR X (compareOp op) r) (ho' : OpR X (compareOp op') r') (ho2 : OpR X (compareOp op2) r2) (ha : PE X a ta) (hb : PE X b tb) (hc : PE X c tc) (hd : PE X d td)
    (hm : lastMarks [op, op', op2] [b, c, d] = false) : PT X (.Compare a [op, op', op2] [b, c, d] pos) (tTest (tChain3 r r' r2 ta tb tc td)) := by
  refine ⟨fun pins s σ H Q I h => ?_⟩
  refine isTrue_chain (thn (ha.run pins s σ H _ I h) fun v s1 ⟨x, H1, I1, r1, q1⟩ => test_link (thn (hb.run pins s1 σ H1 _ I1 q1) fun u s2 ⟨y, H2, I2, r2, q2⟩ =>
    thn (ho pins s2 σ H2 x y v u _ I2 r1 r2 q2) fun d' s3 ⟨z, H3, I3, r3, k, e, q3⟩ => ?_)) hm
  subst e
  cases r3
  refine wpAny_truthy_bool ?_
  cases k with
  | false =>
    obtain ⟨k', e', q'⟩ := q3
    cases e'
    exact ite_ff ⟨H3, I3, q'⟩
  | true =>
    refine ite_tt (test_link (thn (hc.run pins s3 σ H3 _ I3 q3) fun w' s4 ⟨z', H4, I4, r4, q4⟩ => thn (ho' pins s4 σ H4 y z' u w' _ I4 r2 r4 q4) fun d2 s5 ⟨z2, H5, I5, r5, k2, e2, q5⟩ => ?_))
    subst e2
    cases r5
    refine wpAny_truthy_bool ?_
    cases k2 with
    | false =>
      obtain ⟨k', e', q'⟩ := q5
      cases e'
      exact ite_ff ⟨H5, I5, q'⟩
    | true =>
      refine ite_tt (test_last (thn (hd.run pins s5 σ H5 _ I5 q5) fun w2 s6 ⟨z3, H6, I6, r6, q6⟩ => thn (ho2 pins s6 σ H6 z' z3 w' w2 _ I6 r4 r6 q6) fun d3 s7 ⟨z4, H7, I7, r7, k3, e3, q7⟩ => ?_))
      subst e3
      cases r7
      exact wpAny_truthy_bool ⟨H7, I7, q7⟩
theorem chain3_rd {p q r : P} {i j k l : E} {σ : L2.St} {H : Hp} {Q : VK} (h : TEm X.K ex W (evalE C (.chain3 p q r i j k l)) σ H Q) :
    tChain3 (fun x y => rP X.K p [x, y]) (fun x y => rP X.K q [x, y]) (fun x y => rP X.K r [x, y]) (TEm X.K ex W (evalE C i)) (TEm X.K ex W (evalE C j)) (TEm X.K ex W (evalE C k)) (TEm X.K ex W (evalE C l)) σ H Q := by
  obtain ⟨Ω, ι, ow, env, st, R, hr⟩ := h
  refine TEm.of R (show Run X.K ex W Ω ι ow σ H (M.bind (evalE C i) (fun x => M.bind (evalE C j) fun y => M.bind (fun env st => M.opt (pfS st p [x.1, y.1]) env st) fun z => match asB z.1 with
    | some true => M.bind (evalE C k) fun w => M.bind (fun env st => M.opt (pfS st q [y.1, w.1]) env st) fun z2 => match asB z2.1 with
      | some true => M.bind (evalE C l) fun v env st => M.opt (pfS st r [w.1, v.1]) env st
      | some false => M.ret (pv (.bl false))
      | none => fun _ _ => .stuck
    | some false => M.ret (pv (.bl false)) | none => fun _ _ => .stuck) env st) _ from hr) fun x env1 st1 vx H1 p1 h1 => ?_
  obtain ⟨ι1, ow1, f1, R1, rx⟩ := p1.weak
  refine TEm.of R1 (Run.shift f1 h1) fun y env2 st2 vy H2 p2 h2 => ?_
  obtain ⟨ι2, ow2, f2, R2, ry⟩ := p2.weak
  refine link_of R2 (.inl (rx.tr f2.tr)) (.inl ry) (Run.shift f2 h2) (fun ι3 ow3 H3 f3 R3 h3 => ?_) (fun ι3 ow3 H3 f3 R3 h3 => ?_)
  · rw [if_pos rfl]
    refine TEm.of R3 h3 fun w env4 st4 vw H4 p4 h4 => ?_
    obtain ⟨ι4, ow4, f4, R4, rw4⟩ := p4.weak
    refine link_of R4 (.inl ((ry.tr f3.tr).tr f4.tr)) (.inl rw4) (Run.shift f4 h4) (fun ι5 ow5 H5 f5 R5 h5 => ?_) (fun ι5 ow5 H5 f5 R5 h5 => ?_)
    · rw [if_pos rfl]
      refine TEm.of R5 h5 fun u env6 st6 vu H6 p6 h6 => ?_
      obtain ⟨ι6, ow6, f6, R6, ru⟩ := p6.weak
      obtain ⟨z, h7, h8⟩ := Run.opt h6
      exact ⟨Ω, ι6, ow6, env6, st6, σ, [w.1, u.1], z, R6, .cons (.inl ((rw4.tr f5.tr).tr f6.tr)) (.cons (.inl ru) .nil), h7, fun v H' p => h8 v H' (p.trans (((((f1.trans f2).trans f3).trans f4).trans f5).trans f6))⟩
    · rw [if_neg Bool.false_ne_true]
      exact h5 _ _ ((post_bl R5 false).trans ((((f1.trans f2).trans f3).trans f4).trans f5))
  · rw [if_neg Bool.false_ne_true]
    exact h3 _ _ ((post_bl R3 false).trans ((f1.trans f2).trans f3))
theorem je_chain3 (hu : X.A.units + 64 < cLine) {op op' op2 : CmpOp} {p q r : P} {a b d e : Expr} {i j k l : E} {pos : Pos} (hp : cmpP op = some p) (hq : cmpP op' = some q) (hr : cmpP op2 = some r) (hm : lastMarks [op, op', op2] [b, d, e] = false) (ha : JE X ex C W a i) (hb : JE X ex C W b j) (hd : JE X ex C W d k) (he : JE X ex C W e l) :
    JE X ex C W (.Compare a [op, op', op2] [b, d, e] pos) (.chain3 p q r i j k l) :=
  ⟨(pe_chain3 (opr_cmp hu hp) (opr_cmp hu hq) (opr_cmp hu hr) ha.pe hb.pe hd.pe he.pe hm).imp fun σ H Q h => chain3_rd h, (pt_chain3 (opr_cmp hu hp) (opr_cmp hu hq) (opr_cmp hu hr) ha.pe hb.pe hd.pe he.pe hm).imp fun σ H Q h => chain3_rd h, fun _ _ _ z => by cases z⟩
/-! ### built-ins -/
theorem je_blt (c : Ctx g ex C cn X) {x : Str} {p : P} {a : Expr} {o : E} {p0 pos : Pos} (hg : glN cn x = true) (hb : g.blt.contains x = true) (hn : plainName x = true) (hp : bltP x = some p) (hs : ∀ b q, a ≠ .Starred b q) (ha : PE X a (tO X.K ex C W o)) :
    JE X ex C W (.Call (.Name x p0) [a] [] pos) (.prim p [o]) := by
  have hm := c.blt x hb
  obtain ⟨n1, n2, n3⟩ := plain_names hn
  have pa : PA X [a] (tOs X.K ex C W [o]) := pa_cons ha pa_nil (star_plain hs [] X.env)
  have key : ∀ {id : String}, CallR X (.builtin id) (rP1 X.K p) → bootBuiltins x = some (.builtin id) → JE X ex C W (.Call (.Name x p0) [a] [] pos) (.prim p [o]) := fun hc hv =>
    .plain ((pe_callB hc (c.gl hg) hm hv pa n3 n1 (star_plain hs [] X.env) rfl).imp fun σ H Q h => prim_of (G := fun vs H1 => rP1 X.K p vs H1 Q) h fun _ _ l z => ⟨l, z⟩) rfl
  have keyT : ∀ {T : String}, CallR X (.type T) (rP1 X.K p) → bootBuiltins x = some (.type T) → JE X ex C W (.Call (.Name x p0) [a] [] pos) (.prim p [o]) := fun hc hv =>
    .plain ((pe_callTy hc (c.gl hg) hm hv pa n3 n1 (star_plain hs [] X.env) rfl).imp fun σ H Q h => prim_of (G := fun vs H1 => rP1 X.K p vs H1 Q) h fun _ _ l z => ⟨l, z⟩) rfl
  unfold bltP at hp
  split at hp
  · rename_i e; subst e; cases hp; exact key callr_len (by decide +kernel)
  split at hp
  · rename_i e; subst e; cases hp; exact key callr_abs (by decide +kernel)
  split at hp
  · rename_i e; subst e; cases hp; exact key (callr_all c.calm) (by decide +kernel)
  split at hp
  · rename_i e; subst e; cases hp; exact key (callr_any c.calm) (by decide +kernel)
  split at hp
  · rename_i e; subst e; cases hp; exact keyT callr_int (by decide +kernel)
  split at hp
  · rename_i e; subst e; cases hp; exact keyT callr_tuple (by decide +kernel)
  split at hp
  · rename_i e; subst e; cases hp; exact keyT callr_list (by decide +kernel)
  split at hp
  · rename_i e; subst e; cases hp; exact keyT callr_str (by decide +kernel)
  split at hp
  · rename_i e; subst e; cases hp; exact key (callr_sum c.calm) (by decide +kernel)
  split at hp
  · rename_i e; subst e; cases hp; exact key (callr_max c.calm) (by decide +kernel)
  split at hp
  · rename_i e; subst e; cases hp; exact key (callr_min c.calm) (by decide +kernel)
  split at hp
  · rename_i e; subst e; cases hp; exact key callr_sorted (by decide +kernel)
  · cases hp
theorem je_blt2 (c : Ctx g ex C cn X) {x : Str} {p : P} {a b : Expr} {o u : E} {p0 pos : Pos} (hg : glN cn x = true) (hb : g.blt.contains x = true) (hn : plainName x = true) (hp : bltP2 x = some p) (hs : ∀ b q, a ≠ .Starred b q) (hs2 : ∀ c q, b ≠ .Starred c q) (ha : PE X a (tO X.K ex C W o)) (hbb : PE X b (tO X.K ex C W u)) :
    JE X ex C W (.Call (.Name x p0) [a, b] [] pos) (.prim p [o, u]) := by
  have hm := c.blt x hb
  obtain ⟨n1, n2, n3⟩ := plain_names hn
  have pa : PA X [a, b] (tOs X.K ex C W [o, u]) := pa_cons ha (pa_cons hbb pa_nil (star_plain hs2 [] X.env)) (star_plain hs [b] X.env)
  have key : ∀ {id : String}, CallR X (.builtin id) (rP X.K p) → bootBuiltins x = some (.builtin id) → JE X ex C W (.Call (.Name x p0) [a, b] [] pos) (.prim p [o, u]) := fun hc hv =>
    .plain ((pe_callB hc (c.gl hg) hm hv pa n3 n1 (star_plain hs [b] X.env) (by rw [star_plain hs2 [] X.env]; rfl)).imp fun σ H Q h => prim_of (G := fun vs H1 => rP X.K p vs H1 Q) h fun _ _ l z => z) rfl
  unfold bltP2 at hp
  split at hp
  · rename_i e; subst e; cases hp; exact key (callr_max2 c.calm) (by decide +kernel)
  split at hp
  · rename_i e; subst e; cases hp; exact key (callr_min2 c.calm) (by decide +kernel)
  · cases hp
/-! ### a written dict -/
theorem tO_mono (o : E) {σ : L2.St} {H : Hp} {Q Q' : VK} (h : tO X.K ex C W o σ H Q) (hq : ∀ v H', Q v H' → Q' v H') : tO X.K ex C W o σ H Q' := by
  have gen : ∀ m, TEm X.K ex W m σ H Q → TEm X.K ex W m σ H Q' := fun m h => TEm.mono h hq
  cases o <;> first | exact gen _ h | (obtain ⟨v, e, q⟩ := h; exact ⟨v, e, hq _ _ q⟩)
theorem je_inK (c : Ctx g ex C cn X) {a b : Expr} {op : CmpOp} {nb : Bool} {kvs : List (Str × Int)} {i : E} {pos : Pos} (hd : dcE g cn b = some kvs) (hp : inP op = some nb) (hm : behindInMarks op b = false) (ha : PE X a (tO X.K ex C W i)) : JE X ex C W (.Compare a [op] [b] pos) (.prim (.inK nb kvs) [i]) := by
  unfold dcE at hd
  split at hd
  · rename_i x p
    obtain ⟨u, h1, h2⟩ := Option.bind_eq_some_iff.mp hd
    have h3 := (gd_some h1).1
    rw [Bool.and_eq_true] at h3
    obtain ⟨d, es, n, hmg, KD, hv⟩ := c.dcs x kvs h2
    have pb : PE X (.Name x p) (tC (.ref d)) := pe_glob (c.gl h3.1) hmg rfl (plain_names h3.2).1
    have key : ∀ {σ : L2.St} {H : Hp} {Q : VK}, TEm X.K ex W (evalE C (.prim (.inK nb kvs) [i])) σ H Q → tO X.K ex C W i σ H fun x H1 => ∃ (z : Str) (r : Option Value), x = .str z ∧ PySem.W.nsIn X.K d z = some r ∧ Q (.bl (nb != r.isSome)) H1 := fun {σ H Q} h => by
      have := prim_of (G := G1 fun x H1 => ∃ (z : Str) (r : Option Value), x = .str z ∧ PySem.W.nsIn X.K d z = some r ∧ Q (.bl (nb != r.isSome)) H1) h fun vs H1 hl z => by
        match vs, hl with
        | [x], _ =>
          obtain ⟨Ω, ι, ow, env, st, σ, ds, r, R, rb, hp, q⟩ := z
          obtain ⟨d0, rfl, bx⟩ := rb.one
          replace hp : inK1 nb kvs d0 = some r := hp
          unfold inK1 at hp
          split at hp
          · rename_i y
            cases hp
            obtain ⟨r, h4, h5⟩ := hv y
            refine ⟨y, r, bx.str, h4, ?_⟩
            have e : r.isSome = (kvs.lookup y).isSome := by
              cases e : kvs.lookup y with
              | none => rw [e] at h5; rw [h5]; rfl
              | some i => rw [e] at h5; obtain ⟨t, h5⟩ := h5; rw [h5]; rfl
            rw [e]
            exact q _ _ (post_bl R _)
          · cases hp
      exact this
    unfold inP at hp
    split at hp
    · cases hp
      exact ⟨(pe_cmpR (op_in_kd KD) ha pb hm).imp fun σ H Q h => tO_mono i (key h) fun x H1 ⟨z, r, e1, e2, q⟩ => ⟨z, r, e1, rfl, e2, by simpa using q⟩,
        (pt_cmpR (op_in_kd KD) ha pb hm).imp fun σ H Q h => tO_mono i (key (Q := fun x H' => ∃ k, x = .bl k ∧ Q k H') h) fun x H1 ⟨z, r, e1, e2, q⟩ => ⟨z, r, e1, rfl, e2, by simpa using q⟩, fun _ _ _ z => by cases z⟩
    · cases hp
      exact ⟨(pe_cmpR (op_notIn_kd KD) ha pb hm).imp fun σ H Q h => tO_mono i (key h) fun x H1 ⟨z, r, e1, e2, q⟩ => ⟨z, r, e1, rfl, e2, by simpa using q⟩,
        (pt_cmpR (op_notIn_kd KD) ha pb hm).imp fun σ H Q h => tO_mono i (key (Q := fun x H' => ∃ k, x = .bl k ∧ Q k H') h) fun x H1 ⟨z, r, e1, e2, q⟩ => ⟨z, r, e1, rfl, e2, by simpa using q⟩, fun _ _ _ z => by cases z⟩
    · cases hp
  · cases hd
theorem je_getK (c : Ctx g ex C cn X) {a b : Expr} {kvs : List (Str × Int)} {i : E} {pos : Pos} (hd : dcE g cn a = some kvs) (hs : ∀ l u s p, b ≠ .Slice l u s p) (hb : PE X b (tO X.K ex C W i)) : JE X ex C W (.Subscript a b pos) (.prim (.getK kvs) [i]) := by
  unfold dcE at hd
  split at hd
  · rename_i x p
    obtain ⟨u, h1, h2⟩ := Option.bind_eq_some_iff.mp hd
    have h3 := (gd_some h1).1
    rw [Bool.and_eq_true] at h3
    obtain ⟨d, es, n, hmg, KD, hv⟩ := c.dcs x kvs h2
    have pa : PE X (.Name x p) (tC (.ref d)) := pe_glob (c.gl h3.1) hmg rfl (plain_names h3.2).1
    refine .plain ((pe_ix ix_kdict pa hb (plainIx_of hs)).imp fun σ H Q h => ?_) rfl
    have := prim_of (G := G1 fun y H1 => rIxD X.K X.w (.ref d) y H1 Q) h fun vs H1 hl z => by
      match vs, hl with
      | [y], _ =>
        obtain ⟨Ω, ι, ow, env, st, σ, ds, r, R, rb, hp, q⟩ := z
        obtain ⟨d0, rfl, bx⟩ := rb.one
        replace hp : getK1 kvs d0 = some r := hp
        unfold getK1 at hp
        split at hp
        · rename_i y
          obtain ⟨i, h4, rfl⟩ := Option.map_eq_some_iff.mp hp
          obtain ⟨r, h5, h6⟩ := hv y
          rw [h4] at h6
          obtain ⟨t, h6⟩ := h6
          exact ⟨d, y, .int i, rfl, bx.str, ⟨es, n, .int i t, KD.at_, KD.lit, by rw [h5, h6], ⟨t, rfl⟩⟩, q _ _ (post_int R _)⟩
        · cases hp
    exact this
  · cases hd
/-! ### list(range(e)) -/
theorem rgV_0 (j : Int) : rgV 0 j = ((List.range j.toNat).map fun n : Nat => V.int (n : Int)) := by
  unfold rgV
  rw [Int.sub_zero]
  refine List.map_congr_left fun n _ => ?_
  rw [Int.zero_add]
theorem je_tupR (c : Ctx g ex C cn X) {a : Expr} {o : E} {p0 p1 pos pos2 : Pos} (hg : glN cn "tuple" = true) (hb : g.blt.contains "tuple" = true) (hg2 : glN cn "range" = true) (hb2 : g.blt.contains "range" = true) (hs : ∀ b q, a ≠ .Starred b q) (ha : PE X a (tO X.K ex C W o)) :
    JE X ex C W (.Call (.Name "tuple" p0) [.Call (.Name "range" p1) [a] [] pos2] [] pos) (.prim .tupR [o]) := by
  refine .plain ((pe_tupRg c.calm (c.gl hg) (c.blt _ hb) (prg_1 (c.gl hg2) (c.blt _ hb2) ha (star_plain hs [] X.env)) rfl).imp fun σ H Q h => ?_) rfl
  have := prim_of (G := G1 fun x H1 => ∃ n, x = .int n ∧ RgOk 0 n ∧ ∀ q, H1 q = none → Q (.ref q) (upd H1 q (.tup (rgV 0 n)))) h fun vs H1 hl z => by
    match vs, hl with
    | [x], _ =>
      obtain ⟨Ω, ι, ow, env, st, σ, ds, r, R, rb, hp, q⟩ := z
      obtain ⟨d, rfl, bx⟩ := rb.one
      have hp : tupR1 d = some r := hp
      unfold tupR1 at hp
      split at hp
      · obtain ⟨h1, rfl⟩ := gd_some hp
        rw [Bool.and_eq_true] at h1
        have h2 := of_decide_eq_true h1.1
        have h3 := of_decide_eq_true h1.2
        refine ⟨_, bx.int, ⟨by decide, by decide, by omega, by omega, by omega⟩, fun p hp => ?_⟩
        rw [rgV_0]
        refine q _ _ (post_tup R hp ?_)
        unfold rangeD
        have : ∀ l : List Nat, RVs X.K (Prot Ω ι ow) ι H1 (l.map fun n : Nat => V.int (n : Int)) (l.map fun n : Nat => D.int (n : Int)) := fun l => by
          induction l with
          | nil => exact .nil
          | cons n l ih => exact .cons (.int _) ih
        exact this _
      · cases hp
  exact this
theorem je_listR (c : Ctx g ex C cn X) {a : Expr} {o : E} {p0 p1 pos pos2 : Pos} (hg : glN cn "list" = true) (hb : g.blt.contains "list" = true) (hg2 : glN cn "range" = true) (hb2 : g.blt.contains "range" = true) (hs : ∀ b q, a ≠ .Starred b q) (ha : PE X a (tO X.K ex C W o)) :
    JE X ex C W (.Call (.Name "list" p0) [.Call (.Name "range" p1) [a] [] pos2] [] pos) (.prim .listR [o]) := by
  refine .plain ((pe_listRg c.calm (c.gl hg) (c.blt _ hb) (prg_1 (c.gl hg2) (c.blt _ hb2) ha (star_plain hs [] X.env)) rfl).imp fun σ H Q h => ?_) rfl
  have := prim_of (G := G1 fun x H1 => ∃ n, x = .int n ∧ RgOk 0 n ∧ ∀ q, H1 q = none → Q (.ref q) (upd H1 q (.lst (rgV 0 n)))) h fun vs H1 hl z => by
    match vs, hl with
    | [x], _ =>
      obtain ⟨Ω, ι, ow, env, st, σ, ds, r, R, rb, hp, q⟩ := z
      obtain ⟨d, rfl, bx⟩ := rb.one
      have hp : listR1 d = some r := hp
      unfold listR1 at hp
      split at hp
      · obtain ⟨h1, rfl⟩ := gd_some hp
        rw [Bool.and_eq_true] at h1
        have h2 := of_decide_eq_true h1.1
        have h3 := of_decide_eq_true h1.2
        refine ⟨_, bx.int, ⟨by decide, by decide, by omega, by omega, by omega⟩, fun p hp => ?_⟩
        rw [rgV_0]
        refine q _ _ (post_lst R hp ?_)
        unfold rangeD
        have : ∀ l : List Nat, RVs X.K (Prot Ω ι ow) ι H1 (l.map fun n : Nat => V.int (n : Int)) (l.map fun n : Nat => D.int (n : Int)) := fun l => by
          induction l with
          | nil => exact .nil
          | cons n l ih => exact .cons (.int _) ih
        exact this _
      · cases hp
  exact this
theorem je_isi (c : Ctx g ex C cn X) {x t : Str} {T : Ty} {a : Expr} {o : E} {p0 p1 pos : Pos} (hx : x = "isinstance") (hg : glN cn x = true) (hb : g.blt.contains x = true) (hg2 : glN cn t = true) (hb2 : g.blt.contains t = true) (hn2 : plainName t = true) (hT : tyN t = some T) (hs : ∀ b q, a ≠ .Starred b q) (ha : PE X a (tO X.K ex C W o)) :
    JE X ex C W (.Call (.Name x p0) [a, .Name t p1] [] pos) (.prim (.isi T) [o]) := by
  subst hx
  have hm := c.blt _ hb
  have hm2 := c.blt _ hb2
  obtain ⟨n1, n2, n3⟩ := plain_names hn2
  have hty : bootBuiltins t = some (.type (tyS T)) := by
    unfold tyN at hT
    split at hT
    · rename_i e; subst e; cases hT; decide +kernel
    split at hT
    · rename_i e; subst e; cases hT; decide +kernel
    split at hT
    · rename_i e; subst e; cases hT; decide +kernel
    split at hT
    · rename_i e; subst e; cases hT; decide +kernel
    split at hT
    · rename_i e; subst e; cases hT; decide +kernel
    · cases hT
  have pn : PE X (.Name t p1) (tC (.ty (tyS T))) := pe_bltn (c.gl hg2) hm2 hty rfl n3 n1
  have pa : PA X [a, .Name t p1] (tCons (tO X.K ex C W o) (tCons (tC (.ty (tyS T))) tNil)) := pa_cons ha (pa_cons pn pa_nil rfl) (star_plain hs _ X.env)
  refine .plain ((pe_callB (callr_isi T) (c.gl hg) hm (by decide +kernel) pa (by decide) (by decide) (star_plain hs _ X.env) rfl).imp fun σ H Q h => ?_) rfl
  have := prim_of (G := G1 fun x H1 => ∃ x', [x, V.ty (tyS T)] = [x', .ty (tyS T)] ∧ rP X.K (.isi T) [x'] H1 Q) h fun vs H1 hl z => by
    match vs, hl with
    | [x], _ => exact ⟨x, rfl, z⟩
  exact this
/-! ### pop -/
theorem je_pop (c : Ctx g ex C cn X) {x : Str} {i : Nat} {p0 apos cpos : Pos} (hx : rdIx cn x = some i) (hl : (apos.endLine == cpos.line) = true) : JE X ex C W (.Call (.Attribute (.Name x p0) "pop" apos) [] [] cpos) (.pop i) := by
  obtain ⟨h1, h2, h3⟩ := c.read hx
  refine .plain ((pe_bm0 PySem.F.plainAttrs_list PySem.F.slot_list_pop PySem.F.type_list_pop mt_pop (pe_var h1 h2 (plain_names h3).1 (plain_names h3).2.1) rfl hl).imp fun σ H Q h => ?_) rfl
  obtain ⟨Ω, ι, ow, env, st, R, hr⟩ := h
  have hr : Run X.K ex W Ω ι ow σ H (match env[i]? with | some (.own ds) => (match ds.getLast? with | some d => .ok (pv d) (env.set i (.own ds.dropLast)) st | none => .stuck) | _ => .stuck) _ := hr
  split at hr
  · rename_i ds e
    obtain ⟨a, xs, q1, q2, q3, q4⟩ := R.owns i ds e
    split at hr
    · rename_i d e2
      rw [List.getLast?_eq_getElem?] at e2
      obtain ⟨v, q5, q6⟩ := q4.get e2
      obtain ⟨R', f'⟩ := R.setOwn e q1 q4.dropLast
      have pa : Prot Ω ι ow a := .inr (.inr ⟨i, q1⟩)
      refine ⟨.ref a, q2, .inl ⟨rfl, _, .of q3⟩, a, xs, v, rfl, rfl, q3, by rw [q4.length]; exact q5, ?_⟩
      exact hr v _ (.of_pv ⟨ι, ow, f', R', q6.tr (tr_write pa)⟩)
    · exact hr.elim
  · exact hr.elim
theorem je_popAt (c : Ctx g ex C cn X) {x : Str} {i : Nat} {k : Expr} {j : E} {p0 apos cpos : Pos} (hx : rdIx cn x = some i) (hl : (apos.endLine == cpos.line) = true) (hs : ∀ b q, k ≠ .Starred b q) (hk : JE X ex C W k j) : JE X ex C W (.Call (.Attribute (.Name x p0) "pop" apos) [k] [] cpos) (.popAt i j) := by
  obtain ⟨h1, h2, h3⟩ := c.read hx
  refine .plain ((pe_bm PySem.F.plainAttrs_list PySem.F.slot_list_pop PySem.F.type_list_pop mt_popAt (pe_var h1 h2 (plain_names h3).1 (plain_names h3).2.1) (pa_cons hk.pe pa_nil (star_plain hs [] X.env)) rfl (by rw [star_plain hs [] X.env]; rfl) hl (star_plain hs [] X.env) rfl).imp fun σ H Q h => ?_) rfl
  obtain ⟨Ω, ι, ow, env, st, R, hr⟩ := h
  have hr : Run X.K ex W Ω ι ow σ H (match env[i]? with
    | some (.own _) => M.bind (evalE C j) (fun r env st => match env[i]?, r.1 with
      | some (.own ds), .int j => (match (gd (lineOk ds.length) ()).bind fun _ => L2.ixN ds.length j with
        | some n => (match ds[n]? with | some d => .ok (pv d) (env.set i (.own (ds.eraseIdx n))) st | none => .stuck)
        | none => .stuck)
      | _, _ => .stuck) env st
    | _ => .stuck) _ := hr
  split at hr
  · rename_i ds0 e
    obtain ⟨a, xs, q1, q2, q3, q4⟩ := R.owns i ds0 e
    refine ⟨.ref a, q2, .inl ⟨rfl, _, .of q3⟩, ?_⟩
    refine TEm.of R hr fun r env1 st1 v H1 p1 h1 => ?_
    obtain ⟨ι1, ow1, f1, R1, rv⟩ := p1.weak
    have h1 : Run X.K ex W Ω ι ow σ H (match env1[i]?, r.1 with
      | some (.own ds), .int j => (match (gd (lineOk ds.length) ()).bind fun _ => L2.ixN ds.length j with
        | some n => (match ds[n]? with | some d => .ok (pv d) (env1.set i (.own (ds.eraseIdx n))) st1 | none => .stuck)
        | none => .stuck)
      | _, _ => .stuck) _ := h1
    split at h1
    · rename_i ds m e1 e2
      rw [e2] at rv
      cases rv
      split at h1
      · rename_i n e3
        obtain ⟨_, e4, e5⟩ := Option.bind_eq_some_iff.mp e3
        have hz := (gd_some e4).1
        split at h1
        · rename_i d e6
          obtain ⟨b, ys, z1, z2, z3, z4⟩ := R1.owns i ds e1
          rw [q2] at z2
          cases z2
          obtain ⟨w, z5, z6⟩ := z4.get e6
          obtain ⟨R', f'⟩ := R1.setOwn e1 z1 (z4.eraseIdx n)
          obtain ⟨s1, s2, s3, s4⟩ := ixN_seq e5
          have hz2 := of_decide_eq_true hz
          refine ⟨a, ys, m, n, w, rfl, rfl, z3, by omega, by omega, by rw [z4.length]; exact s1, z5, ?_⟩
          exact h1 w _ (.of_pv ⟨ι1, ow1, f1.trans f', R', z6.tr (tr_write (.inr (.inr ⟨i, z1⟩)))⟩)
        · exact h1.elim
      · exact h1.elim
    · exact h1.elim
  · exact hr.elim
end
end IP

set_option Elab.async false
set_option linter.all false
set_option maxRecDepth 100000
set_option maxHeartbeats 2000000
namespace IP
open PySem PySem.Spec PyProof.Rows L2
/-! ### enumerate of any sequence -/
theorem meets_enum1 {v : Value} {o : Obj} {H : Heap → Prop} (B : Begins v o H) :
    Meets (Builtin.«enumerate.__new__» ⟨[.type "enumerate", v], []⟩) (fun _ R s => H s.heap ∧
      R (.ok (.ret (.ref (s.heap.push o).objs.size))) { s with heap := (s.heap.push o).push { cls := .type "enumerate", data := .fields #[.none, .bool false, .ref s.heap.objs.size, rawInt 0, .none, .none] } }) :=
  .of_wp fun prog w A R s h => by
    obtain ⟨hp, g, d, tk, os⟩ := s; obtain ⟨h1, h⟩ := h
    have hsub := sub_enumerate
    have q1 : ∀ {A' : Around} {E : Value → Shared → Prop} {Q : Value → Shared → Prop}, Q (.ref hp.objs.size) ⟨hp.push o, g, d, tk, os⟩ → wpAny (model prog w) A' (pyIter v) Q E ⟨hp, g, d, tk, os⟩ := fun q => B.iter prog w _ _ ⟨hp, g, d, tk, os⟩ _ h1 q
    wp_walk using q1
    refine wpAny_stack_any fun st => wpAny_pure ?_
    split
    · rename_i c _ _ _ _ _
      cases (c == Value.type "enumerate") <;> (wp_walk using q1; exact ⟨_, rfl, h⟩)
    · wp_walk using q1
      exact ⟨_, rfl, h⟩
theorem call_enum1 {prog : Program} {w : World} {A : Around} {E : Value → Shared → Prop} {s : Shared} {v : Value} {o : Obj} {H : Heap → Prop} {Q : Value → Shared → Prop} (B : Begins v o H) (h1 : H s.heap)
    (h : ∀ h', IsEnum h' (s.heap.objs.size + 1) s.heap.objs.size 0 .none → h'.get? s.heap.objs.size = some o → h'.objs.size = s.heap.objs.size + 2 → (∀ b u, s.heap.get? b = some u → h'.get? b = some u) → Q (.ref (s.heap.objs.size + 1)) { s with heap := h' }) :
    wpAny (model prog w) A (call (.type "enumerate") [v]) Q E s := by
  refine callType_new F.called_enumerate (by decide) (F.typeCall_enumerate_1 _) (F.newCall_enumerate_1 _) (fun obj => F.args_object_init_2 obj _) F.entry_enumerate_new (meets_enum1 B) ⟨h1, ?_⟩
  have hz : (s.heap.push o).objs.size = s.heap.objs.size + 1 := Heap.size_push ..
  show _ ∧ _
  rw [hz]
  have he : IsEnum ((s.heap.push o).push { cls := .type "enumerate", data := .fields #[.none, .bool false, .ref s.heap.objs.size, rawInt 0, .none, .none] }) (s.heap.objs.size + 1) s.heap.objs.size 0 .none := by
    have := Heap.get?_push_size (s.heap.push o) (o := { cls := .type "enumerate", data := .fields #[.none, .bool false, .ref s.heap.objs.size, rawInt 0, .none, .none] }) rfl
    rw [hz] at this; exact this
  exact ⟨⟨_, he, rfl⟩, h _ he (Heap.get?_push_of_some _ (Heap.get?_push_size _ B.free)) (by rw [Heap.size_push, hz]) fun b u x => Heap.get?_push_of_some _ (Heap.get?_push_of_some _ x)⟩
theorem enum_endT {prog : Program} {w : World} {A : Around} {E : Value → Shared → Prop} {s : Shared} {e it t : Addr} {i : Nat} {c : Int} {old : Value} {items : Array Value} {Q : Option Value → Shared → Prop} (hh : A.handled = none) (he : IsEnum s.heap e it c old) (hit : s.heap.IsTupleIter it t i) (ht : s.heap.IsTuple t items) (hx : items[i]? = none)
    (hQ : ∀ h', Heap.ExtBut it s.heap h' → Q none { s with heap := h' }) : wpAny (model prog w) A (pyNext (.ref e)) Q E s := by
  have hT : s.TypeIs (.ref e) "enumerate" := ⟨_, he, rfl⟩
  unfold pyNext
  refine wpAny_bind (wpAny_attempt (wpAny_callSpecial?_slot (name := Str.ofString "__next__") hT F.slot_enumerate_next (wpAny_call_entry F.slot_enumerate_next hT F.entry_enumerate_next ?_ (F.args_enumerate_next_1 _))))
  show wpAny _ _ (field (.ref e) 2 >>= _) _ _ _
  refine wpAny_bind (wpAny_field he rfl (x := .ref it) rfl (wpAny_bind (wpAny_nextOf_tuple_end (show A.in1.handled = none from hh) hit ht hx fun h' x he' hx' => ?_)))
  obtain ⟨o, ho, hc⟩ := hx'
  exact wpAny_bind (wpAny_isInstance (T := "StopIteration") (b := true) ⟨o, ho, hc⟩ isSubtype_stop (wpAny_pure (hQ _ he')))
/-- the tuple at a, each item in a new pair -/
def IteT (K : PySem.W.Frag) (a : Addr) : L2.It :=
  ⟨fun i H => ∃ (xs : List V) (x : V), SqT K H a xs ∧ xs[i]? = some x, fun i H v H' => ∃ T x, v = .ref T ∧ H T = none ∧ H' = upd H T (.tup [.int (i : Nat), x]) ∧ ∀ xs, SqT K H a xs → xs[i]? = some x, fun i H => ∃ xs : List V, SqT K H a xs ∧ xs.length ≤ i⟩
theorem turn_enumT {P : Program} {w : World} {K : PySem.W.Frag} {elts : List Expr} {kk : Nat} {tpos : Pos} (a e it : Addr) :
    Turn P w K (.Tuple elts kk tpos) (IteT K a) [e, it] e (fun i h => (∃ old, IsEnum h e it ((i : Nat) : Int) old) ∧ h.IsTupleIter it a i ∧ e ≠ it ∧ e ≠ a ∧ a ≠ it) where
  mem := by simp
  obj := fun i h st b hb => by
    obtain ⟨⟨old, he⟩, ⟨o, ho, hc, hd⟩, _⟩ := st
    rcases (show b = e ∨ b = it by simpa using hb) with z | z
    · rw [z]; exact ⟨_, he, fun v q => nomatch q⟩
    · rw [z]; exact ⟨o, ho, fun v q => by rw [hd] at q; cases q⟩
  keep := fun i h h' st k => let ⟨⟨old, he⟩, hi, hne⟩ := st; ⟨⟨old, k e (by simp) _ he⟩, hi.at fun o q => k it (by simp) o q, hne⟩
  item := by
    intro X hP hw hK hc i pins s σ H E I hf st hg
    subst hP hw hK
    obtain ⟨⟨old, he⟩, hit, hne, hea, hai⟩ := st
    obtain ⟨xs, x, hq, hx⟩ := hg
    obtain ⟨its, rv, p, hz⟩ := I.tuple hq
    obtain ⟨u, hu, ru⟩ := rv.get hx
    have hel : e < s.heap.objs.size := Heap.lt_size he
    have hil : it < s.heap.objs.size := by obtain ⟨_, q, _⟩ := hit; exact Heap.lt_size q
    have lt : i < its.toArray.size := by have := (List.getElem?_eq_some_iff.mp hu).1; simpa using this
    refine wpAny_pyNext_enum_itemD (Draws.tuple (prog := X.prog) (w := X.w) (A := X.A.in1) (I.ok.hd hc) it a hai its.toArray) he ⟨hit, p⟩ lt hne (by simp [hne, hea]) fun x' h' tk hP ho hst' hT hsz hk => ?_
    have ex : x' = u := by
      have hP : its.toArray[i]? = some x' := hP
      have : its[i]? = some x' := by simpa using hP
      rw [hu] at this; exact (Option.some.inj this).symm
    subst ex
    refine ⟨_, rfl, wpAny_letOwnedTupleGo_enum (s := { s with heap := h', toks := tk + 1 }) ho fun h'' he' sb => ?_⟩
    have hT2 : h''.get? s.heap.objs.size = some { cls := .type "tuple", data := .seq #[.int i tk, x'] } := (sb.2 _ (Nat.ne_of_gt hel)).trans hT
    have new : ObjOk X.prog X.w (upd H s.heap.objs.size (.tup [.int (i : Nat), x])) h'' s.heap.objs.size (.tup [.int (i : Nat), x]) := ⟨by show 2 ≤ sizeLine; decide, [.int i tk, x'], .cons ⟨_, rfl⟩ (.cons ru .nil), ⟨_, hT2, rfl, _, rfl⟩⟩
    have I1 : Inv X pins σ (upd H s.heap.objs.size (.tup [.int (i : Nat), x])) { s with heap := h'', toks := tk + 1 } := I.turnedNew (ch := [e, it]) (fun b ob hb q => (sb.2 b (fun z => hb (by simp [z]))).trans (hk b ob (fun z => hb (by simp [z])) (fun z => hb (by simp [z])) q)) hf (Nat.le_refl _) new
    refine ⟨.ref s.heap.objs.size, _, I1, rfl, ⟨_, x, rfl, I.hok.fresh (Nat.le_refl _), rfl, fun ys hy => by rw [I.tuple_inj hy hq]; exact hx⟩, ⟨⟨x', ?_⟩, hst'.1.at fun o q => (sb.2 it (Ne.symm hne)).trans q, hne, hea, hai⟩, fun b hb => ?_⟩
    · rw [show ((i + 1 : Nat) : Int) = (i : Int) + 1 by omega]; exact he'
    · have hlt : b < s.heap.objs.size := by
        rcases (show b = e ∨ b = it by simpa using hb) with z | z
        · rw [z]; exact hel
        · rw [z]; exact hil
      rw [upd_ne (Nat.ne_of_lt hlt)]
      exact (hf b hb).1
  done := by
    intro X hP hw hK hc i pins s σ H E I hf st hg
    subst hP hw hK
    obtain ⟨⟨old, he⟩, hit, hne, hea, hai⟩ := st
    obtain ⟨xs, hq, hx⟩ := hg
    obtain ⟨its, rv, p, hz⟩ := I.tuple hq
    obtain ⟨f0, f1, f2, f3, f4, f5⟩ := hf it (by simp)
    have hl := rv.length
    exact enum_endT (I.ok.hd hc) he hit p (by simp; omega) fun h' eb => ⟨rfl, I.turned (t' := s.toks) (fun b o hb q => eb b o hb q) f0 f1 f3 f4 f5⟩
  self := fun A i s Q E st h => let ⟨⟨_, he⟩, _⟩ := st; wpAny_pyIter_enum he h
def iEnumA (K : PySem.W.Frag) (ta : TA) : TI := fun σ H R => ta σ H fun vs H1 => ∃ a xs, vs = [.ref a] ∧ ((SqL K H1 a xs ∧ R (Ite K a) H1) ∨ (SqT K H1 a xs ∧ R (IteT K a) H1))
theorem pi_enumA {X : Cx} {e : Expr} {ta : TA} {p pos tpos : Pos} {elts : List Expr} {kk : Nat} (hg : Gl X "enumerate") (hm : X.mg "enumerate" = none) (ha : PA X [e] ta) (hs : starEach [e] X.env = [(false, eval e X.env)]) :
    PI X (.Tuple elts kk tpos) (.Call (.Name "enumerate" p) [e] [] pos) (iEnumA X.K ta) := by
  refine ⟨fun pins s σ H R I h => ?_⟩
  refine Call_ (ld_blt I hg hm boot_enumerate (PyProof.Rows.callWith_type1 (thn (ha.run pos pins s σ H _ I h) fun us s1 ⟨vs, H1, I1, r1, q1⟩ => ?_) hs rfl))
  obtain ⟨a, xs, ex, q1⟩ := q1
  subst ex
  cases r1 with
  | cons r rr =>
    cases rr
    cases r
    have two : ∀ {b : Addr}, b ∈ [s1.heap.objs.size + 1, s1.heap.objs.size] → s1.heap.objs.size ≤ b := fun {b} hb => by
      rcases (show b = s1.heap.objs.size + 1 ∨ b = s1.heap.objs.size by simpa using hb) with z | z
      · rw [z]; exact Nat.le_add_right _ _
      · rw [z]; exact Nat.le_refl _
    rcases q1 with ⟨hq, q⟩ | ⟨hq, q⟩
    · obtain ⟨its, rv, p', hz⟩ := I1.list hq
      refine call_enumerate_list p'.isList fun h' he hit hsz hk => wpAny_pyIter_enum he ?_
      have I2 : Inv X pins σ H1 { s1 with heap := h' } := I1.kept (t' := s1.toks) hk
      exact ⟨s1.heap.objs.size + 1, [s1.heap.objs.size + 1, s1.heap.objs.size], _, _, H1, rfl, I2, turn_enum a (s1.heap.objs.size + 1) s1.heap.objs.size, ⟨⟨.none, he⟩, hit, Nat.succ_ne_self _⟩, fun b hb => I1.fpOk (two hb) (I1.hok.fresh (two hb)), q⟩
    · obtain ⟨its, rv, p', hz⟩ := I1.tuple hq
      have hal : a < s1.heap.objs.size := by obtain ⟨o, ho, _⟩ := p'; exact Heap.lt_size ho
      refine call_enum1 (begins_tuple a its.toArray) p' fun h' he hit hsz hk => wpAny_pyIter_enum he ?_
      have I2 : Inv X pins σ H1 { s1 with heap := h' } := I1.kept (t' := s1.toks) hk
      exact ⟨s1.heap.objs.size + 1, [s1.heap.objs.size + 1, s1.heap.objs.size], _, _, H1, rfl, I2, turn_enumT a (s1.heap.objs.size + 1) s1.heap.objs.size, ⟨⟨.none, he⟩, ⟨_, hit, rfl, rfl⟩, Nat.succ_ne_self _, Nat.ne_of_gt (Nat.lt_succ_of_lt hal), Nat.ne_of_lt hal⟩, fun b hb => I1.fpOk (two hb) (I1.hok.fresh (two hb)), q⟩
end IP

set_option Elab.async false
set_option linter.all false
set_option maxRecDepth 100000
set_option maxHeartbeats 2000000
namespace IP
open PySem PySem.Spec PyProof.Rows L2
/-! ### t[::-1] of a tuple -/
section
variable {prog : Program} {w : World} {A : Around} {E : Value → Shared → Prop} {s : Shared}
theorem rev_pick (xs : Array Value) : ((List.range xs.size).filterMap fun (m : Nat) => xs[(((xs.size : Int) - 1) + (m : Int) * -1).toNat]?).toArray = xs.toList.reverse.toArray := by
  congr 1
  apply List.ext_getElem?
  intro i
  have h1 : (List.range xs.size).filterMap (fun (m : Nat) => xs[(((xs.size : Int) - 1) + (m : Int) * -1).toNat]?) = (List.range xs.size).map fun m => xs.toList.getD (xs.size - 1 - m) .none := by
    have key : ∀ l : List Nat, (∀ m ∈ l, m < xs.size) → l.filterMap (fun (m : Nat) => xs[(((xs.size : Int) - 1) + (m : Int) * -1).toNat]?) = l.map fun m => xs.toList.getD (xs.size - 1 - m) .none := by
      intro l
      induction l with
      | nil => intro _; rfl
      | cons m l ih =>
        intro hl
        have hm := hl m List.mem_cons_self
        have e : (((xs.size : Int) - 1) + (m : Int) * -1).toNat = xs.size - 1 - m := by omega
        have g : xs[(((xs.size : Int) - 1) + (m : Int) * -1).toNat]? = some (xs.toList.getD (xs.size - 1 - m) .none) := by
          rw [e, List.getD_eq_getElem?_getD, Array.getElem?_toList, Array.getElem?_eq_getElem (by omega)]
          rfl
        rw [List.filterMap_cons, g, List.map_cons, ih fun k hk => hl k (List.mem_cons_of_mem _ hk)]
    exact key _ fun m hm => List.mem_range.mp hm
  rw [h1, List.getElem?_map]
  rcases Nat.lt_or_ge i xs.size with h | h
  · rw [List.getElem?_range h, List.getElem?_reverse (by simpa using h), Option.map_some, List.getD_eq_getElem?_getD, Array.length_toList]
    rw [List.getElem?_eq_getElem (by simp; omega)]
    rfl
  · rw [List.getElem?_eq_none (by simpa using h), List.getElem?_eq_none (by simpa using h)]
    rfl
theorem sliceApplied_rev {sl : Addr} {t : Tok} {n : Nat} {Q : Int × Int × Nat → Shared → Prop} (hs : s.heap.IsSliceOf sl .none .none (.int (-1) t)) (h : Q ((n : Int) - 1, -1, n) s) : wpAny (model prog w) A (Builtin.Slice.sliceApplied (.ref sl) (pure (n : Int))) Q E s := by
  obtain ⟨os, hos, hcs, hds⟩ := id hs
  unfold Builtin.Slice.sliceApplied Builtin.Slice.sliceFields
  refine wpAny_bind (wpAny_bind (wpAny_field hos hds (x := .none) rfl (wpAny_bind (wpAny_field hos hds (x := .none) rfl (wpAny_bind (wpAny_field hos hds (x := .int (-1) t) rfl (wpAny_pure ?_)))))))
  refine wpAny_bind (slicePart_int ?_)
  show wpAny _ _ (if ((-1 : Int) == 0) = true then _ else _) _ _ s
  rw [if_neg (by decide)]
  refine wpAny_bind (slicePart_none (wpAny_bind (slicePart_none (wpAny_bind (wpAny_pure ?_)))))
  have e1 : Builtin.Slice.sliceAdjust none none (-1) (n : Int) = ((n : Int) - 1, -1) := by
    unfold Builtin.Slice.sliceAdjust
    simp
  have e2 : Builtin.Slice.slicePlaces ((n : Int) - 1) (-1) (-1) = n := by
    unfold Builtin.Slice.slicePlaces
    simp
    split <;> omega
  show wpAny _ _ (match Builtin.Slice.sliceAdjust none none (-1) (n : Int) with | (lo, hi) => pure (lo, (-1 : Int), Builtin.Slice.slicePlaces lo hi (-1))) _ _ s
  rw [e1]
  show wpAny _ _ (pure ((n : Int) - 1, (-1 : Int), Builtin.Slice.slicePlaces ((n : Int) - 1) (-1) (-1))) _ _ s
  rw [e2]
  exact wpAny_pure h
theorem getItem_revT {t sl : Addr} {items : Array Value} {tk : Tok} {Q : Value → Shared → Prop} (ht : IsTup s.heap t items) (hs : s.heap.IsSliceOf sl .none .none (.int (-1) tk))
    (h : Q (.ref s.heap.objs.size) { s with heap := s.heap.push { cls := .type "tuple", data := .seq items.toList.reverse.toArray } }) (hsz : items.size ≤ sizeLine) : wpAny (model prog w) A (getItem (.ref t) (.ref sl)) Q E s := by
  have hrev : sizeOk (.seq items.toList.reverse.toArray) := by
    show items.toList.reverse.toArray.size ≤ sizeLine
    rw [List.size_toArray, List.length_reverse, Array.length_toList]
    exact hsz
  obtain ⟨os, hos, hcs, hds⟩ := id hs
  have hTs : s.TypeIs (.ref sl) "slice" := ⟨os, hos, hcs⟩
  unfold getItem
  try with_reducible refine wpAny_holding ?_
  first | refine wpAny_bind (wpAny_pure ?_) | skip
  refine wpAny_bind (wpAny_sequenceKey ht.typeIs (by decide) (wpAny_bind (wpAny_callSpecial?_slot (name := Str.ofString "__getitem__") ht.typeIs PyProof.Rows.slot_tuple_getitem (wpAny_call_entry PyProof.Rows.slot_tuple_getitem ht.typeIs entry_tuple_getitem ?_ (args_tuple_getitem _ _)))))
  show wpAny _ _ (Builtin.Tuple.tupleItemsOf (.ref t) >>= _) _ _ s
  refine wpAny_bind (tupleItemsOf_ ht (wpAny_bind (wpAny_typeOf hTs ?_)))
  rw [if_pos (by decide)]
  refine wpAny_bind (sliceApplied_rev hs ?_)
  have hno : ¬ ((((items.size : Int) - 1) == 0 && (-1 : Int) == 1 && items.size == items.size) = true) := by
    intro q
    rw [Bool.and_eq_true, Bool.and_eq_true] at q
    exact absurd q.1.2 (by decide)
  show wpAny _ _ (if (((items.size : Int) - 1) == 0 && (-1 : Int) == 1 && items.size == items.size) = true then _ else _) _ _ s
  rw [if_neg hno, rev_pick]
  first
    | exact wpAny_bind (m := Builtin.Tuple.tupleExact _) (wpAny_newObj_type (wpAny_pure ⟨_, rfl, wpAny_pure h⟩) hrev)
    | exact wpAny_bind (m := Builtin.Tuple.tupleExact _) (wpAny_newObj_type (wpAny_bind (wpAny_pure (wpAny_pure ⟨_, rfl, wpAny_pure h⟩))) hrev)
    | exact wpAny_bind (wpAny_bind (m := Builtin.Tuple.tupleExact _) (wpAny_newObj_type (wpAny_pure (wpAny_pure ⟨_, rfl, wpAny_pure h⟩)) hrev))
    | exact wpAny_bind (wpAny_bind (m := Builtin.Tuple.tupleExact _) (wpAny_newObj_type (wpAny_pure ⟨_, rfl, wpAny_pure h⟩) hrev))
end
/-- a list or a tuple turned round -/
def tRevA (K : PySem.W.Frag) (te : TE) : TE := fun σ H Q => te σ H fun x H1 => ∃ a xs, x = .ref a ∧ ((SqL K H1 a xs ∧ ∀ p, H1 p = none → Q (.ref p) (upd H1 p (.lst xs.reverse))) ∨ (SqT K H1 a xs ∧ ∀ p, H1 p = none → Q (.ref p) (upd H1 p (.tup xs.reverse))))
theorem pe_revA {X : Cx} {e : Expr} {te : TE} {k : Nat} {p1 p2 p3 pos : Pos} (he : PE X e te) : PE X (.Subscript e (.Slice none none (some (.UnaryOp .USub (.Constant (.int 1) k p1) p2)) p3) pos) (tRevA X.K te) := by
  refine ⟨fun pins s σ H Q I h => ?_⟩
  refine Subscript_ (thn (he.run pins s σ H _ I h) fun v s1 ⟨x, H1, I1, r1, q1⟩ => ?_)
  obtain ⟨a, xs, ex, q⟩ := q1
  subst ex
  cases r1
  have hst : PO X (some (.UnaryOp .USub (.Constant (.int 1) k p1) p2)) (tPart (tUn (rU fun i => .int (-i)) (tC (.int 1)))) := po_some (pe_un un_neg pe_int)
  refine wpAny_Slice (thn (po_none.run pins s1 σ H1 (fun o H2 => o = none ∧ H2 = H1) I1 ⟨rfl, rfl⟩) fun vl s2 ⟨l, H2, I2, pl, el, e2⟩ => ?_)
  subst el e2
  refine thn (po_none.run pins s2 σ H2 (fun o H3 => o = none ∧ H3 = H2) I2 ⟨rfl, rfl⟩) fun vu s3 ⟨u, H3, I3, pu, eu, e3⟩ => ?_
  subst eu e3
  refine thn (hst.run pins s3 σ H3 (fun o H4 => o = some (-1) ∧ H4 = H3) I3 ⟨1, rfl, -1, rfl, rfl, rfl⟩) fun vs s4 ⟨o, H4, I4, ps, eo, e4⟩ => ?_
  subst eo e4
  have I5 : Inv X pins σ H4 { s4 with heap := s4.heap.push { cls := .type "slice", data := .fields #[vl, vu, vs] } } := I4.kept (t' := s4.toks) fun b ob q => Heap.get?_push_of_some _ q
  show wpAny (model X.prog X.w) X.A (subscriptTail e (.Slice none none (some (.UnaryOp .USub (.Constant (.int 1) k p1) p2)) p3) (.ref a) (.ref s4.heap.objs.size)) (EP X pins σ Q) X.xe { s4 with heap := s4.heap.push { cls := .type "slice", data := .fields #[vl, vu, vs] } }
  rcases q with ⟨hx, q⟩ | ⟨hx, q⟩
  · obtain ⟨its, r, ht, hz⟩ := I5.list hx
    have hlen := r.length
    refine tail_any (ops := [.ref a, .ref s4.heap.objs.size]) ht.isList.typeIs (PySem.slot_list_getitem.lookup) ?_ (by with_unfolding_all rfl)
    refine wpAny_getItem_list_slice ht.isList (Heap.IsSliceOf.new _ vl vu vs) pl pu ps (by decide) ?_ (by rw [List.size_toArray]; omega)
    rw [PySem.W.krv_pick]
    exact ⟨.ref _, _, I5.laid (t' := s4.toks) (o := .lst xs.reverse) (fun b ob q => Heap.get?_push_of_some _ q) (Nat.le_refl _) ⟨by rw [List.length_reverse]; exact hz, _, 0, r.reverse, Heap.get?_push_size _ rfl⟩, rfl, q _ (I5.hok.fresh (Nat.le_refl _))⟩
  · obtain ⟨its, r, ht, hz⟩ := I5.tuple hx
    have hlen := r.length
    cases pl
    cases pu
    cases ps
    refine tail_any (ops := [.ref a, .ref s4.heap.objs.size]) ht.typeIs (PyProof.Rows.slot_tuple_getitem.lookup) ?_ (by with_unfolding_all rfl)
    refine getItem_revT ht (Heap.IsSliceOf.new _ _ _ _) ?_ (by rw [List.size_toArray]; omega)
    exact ⟨.ref _, _, I5.laid (t' := s4.toks) (o := .tup xs.reverse) (fun b ob q => Heap.get?_push_of_some _ q) (Nat.le_refl _) ⟨by rw [List.length_reverse]; exact hz, _, r.reverse, IsTup.new _ _⟩, rfl, q _ (I5.hok.fresh (Nat.le_refl _))⟩
end IP

set_option Elab.async false
set_option linter.all false
set_option maxRecDepth 100000
set_option maxHeartbeats 2000000
namespace IP
open PySem PySem.Spec PyProof.Rows L2
section
variable {K : PySem.W.Frag} {P : Addr → Prop} {ι : List Addr} {H : Hp}
theorem RVs.reverse : ∀ {vs : List V} {ds : List D}, RVs K P ι H vs ds → RVs K P ι H vs.reverse ds.reverse
  | _, _, .nil => .nil
  | _, _, .cons h r => by
    rw [List.reverse_cons, List.reverse_cons]
    exact (RVs.reverse r).append (.cons h .nil)
theorem lookup_rv {f : Str} {d : D} : ∀ {fvs : List (Str × V)} {fs : List (Str × D)}, fvs.map (·.1) = fs.map (·.1) → RVs K P ι H (fvs.map (·.2)) (fs.map (·.2)) → fs.lookup f = some d → ∃ v, fvs.lookup f = some v ∧ RV K P ι H v d
  | _, [], _, _, h => by cases h
  | [], (g, e) :: fs, he, _, _ => by cases he
  | (g', v) :: fvs, (g, e) :: fs, he, r, h => by
    have e1 : g' = g := (List.cons.inj he).1
    have e2 : fvs.map (·.1) = fs.map (·.1) := (List.cons.inj he).2
    subst e1
    have r : RVs K P ι H (v :: fvs.map (·.2)) (e :: fs.map (·.2)) := r
    cases r with
    | cons r1 r2 =>
      rw [List.lookup_cons] at h ⊢
      cases q : f == g' with
      | true => rw [q] at h; cases h; exact ⟨v, rfl, r1⟩
      | false => rw [q] at h; exact lookup_rv e2 r2 h
theorem lookup_no {α β : Type} {f : Str} : ∀ {fvs : List (Str × α)} {fs : List (Str × β)}, fvs.map (·.1) = fs.map (·.1) → fs.lookup f = none → fvs.lookup f = none
  | [], _, _, _ => rfl
  | (g', v) :: fvs, [], he, _ => by cases he
  | (g', v) :: fvs, (g, e) :: fs, he, h => by
    have e1 : g' = g := (List.cons.inj he).1
    have e2 : fvs.map (·.1) = fs.map (·.1) := (List.cons.inj he).2
    subst e1
    rw [List.lookup_cons] at h ⊢
    cases q : f == g' with
    | true => rw [q] at h; cases h
    | false => rw [q] at h; exact lookup_no e2 h
theorem lookup_key {β : Type} {f : Str} {d : β} : ∀ {fs : List (Str × β)}, fs.lookup f = some d → f ∈ fs.map (·.1)
  | [], h => by cases h
  | (g, e) :: fs, h => by
    rw [List.lookup_cons] at h
    cases q : f == g with
    | true => rw [eq_of_beq q]; exact List.mem_cons_self
    | false => rw [q] at h; exact List.mem_cons_of_mem _ (lookup_key h)
theorem insB_some {o : Option Bx} {z : Str × List Str × List (Str × D)} (h : insB o = some z) : o = some (.ins z.1 z.2.1 z.2.2) := by
  unfold insB at h
  split at h
  · cases h; rfl
  · cases h
end
/-- an instance in its box -/
theorem Rel.insAt {K : PySem.W.Frag} {Ω : Addr → Prop} {ι : List Addr} {ow : Nat → Option Addr} {env : EnvI} {st : Sto} {σ : L2.St} {H : Hp} {x : V} {k : Nat} {c : Str} {al : List Str} {fs : List (Str × D)} (R : Rel K Ω ι ow env st σ H) (bx : RB K (Prot Ω ι ow) ι H x (.ref k)) (h : st[k]? = some (.ins c al fs)) :
    ∃ a dx fvs, x = .ref a ∧ ι[k]? = some a ∧ H a = some (.ins (He.ga K c) dx fvs) ∧ ClsI K c al ∧ fvs.map (·.1) = fs.map (·.1) ∧ (∀ f ∈ fs.map (·.1), f ∈ al) ∧ RVs K (Prot Ω ι ow) ι H (fvs.map (·.2)) (fs.map (·.2)) := by
  obtain ⟨a, rfl, hi⟩ := bx.ref
  obtain ⟨a', h1, h2⟩ := R.boxs k _ h
  rw [hi] at h1; cases h1
  cases h2 with
  | ins h k e s r => exact ⟨a, _, _, rfl, hi, h, k, e, s, r⟩
section
variable {g : G} {ex : Nat → Addr × Str} {C : CallF} {cn : Cn} {X : Cx} {W : WX}
/-! ### x[::-1] -/
theorem je_rev {a : Expr} {i : E} {k : Nat} {p1 p2 p3 pos : Pos} (ha : PE X a (tO X.K ex C W i)) : JE X ex C W (.Subscript a (.Slice none none (some (.UnaryOp .USub (.Constant (.int 1) k p1) p2)) p3) pos) (.prim .rev [i]) := by
  refine .plain ((pe_revA ha).imp fun σ H Q h => ?_) rfl
  have := prim_of (G := G1 fun x H1 => ∃ a xs, x = .ref a ∧ ((SqL X.K H1 a xs ∧ ∀ p, H1 p = none → Q (.ref p) (upd H1 p (.lst xs.reverse))) ∨ (SqT X.K H1 a xs ∧ ∀ p, H1 p = none → Q (.ref p) (upd H1 p (.tup xs.reverse))))) h fun vs H1 hl z => by
    match vs, hl with
    | [x], _ =>
      obtain ⟨Ω, ι, ow, env, st, σ, ds, r, R, rb, hp, q⟩ := z
      obtain ⟨d, rfl, bx⟩ := rb.one
      have hp : rev1 d = some r := hp
      unfold rev1 at hp
      split at hp
      · cases hp
        obtain ⟨a, ys, rfl, hs, rs⟩ := bx.lst
        exact ⟨a, ys, rfl, .inl ⟨.of hs, fun p hp => q _ _ (post_lst R hp rs.reverse)⟩⟩
      · cases hp
        obtain ⟨a, ys, rfl, hs, rs⟩ := bx.tup
        exact ⟨a, ys, rfl, .inr ⟨hs, fun p hp => q _ _ (post_tup R hp rs.reverse)⟩⟩
      · cases hp
  exact this
/-! ### attributes -/
theorem fldD_some {st : Sto} {f : Str} {d e : D} (h : fldD st f d = some e) : ∃ k c al fs, d = .ref k ∧ st[k]? = some (.ins c al fs) ∧ fs.lookup f = some e := by
  unfold fldD at h
  split at h
  · obtain ⟨z, h1, h2⟩ := Option.bind_eq_some_iff.mp h
    exact ⟨_, z.1, z.2.1, z.2.2, rfl, insB_some h1, h2⟩
  · cases h
theorem je_fld {x f : Str} {i : E} {p0 pos : Pos} (ha : PE X (.Name x p0) (tO X.K ex C W i)) : JE X ex C W (.Attribute (.Name x p0) f pos) (.prim (.fld f) [i]) := by
  refine .plain ((pe_fld ha rfl).imp fun σ H Q h => ?_) rfl
  have := prim_of (G := G1 fun x H1 => ∃ a C dx fs v, x = .ref a ∧ H1 a = some (.ins C dx fs) ∧ Cls X.K C ∧ NoAttr X.K C f ∧ fs.lookup f = some v ∧ Q v H1) h fun vs H1 hl z => by
    match vs, hl with
    | [x], _ =>
      obtain ⟨Ω, ι, ow, env, st, σ, ds, r, R, rb, hp, q⟩ := z
      obtain ⟨d, rfl, bx⟩ := rb.one
      obtain ⟨e, h1, rfl⟩ := Option.map_eq_some_iff.mp (show (fldD st f d).map pv = some r from hp)
      obtain ⟨k, c, al, fs, rfl, h2, h3⟩ := fldD_some h1
      obtain ⟨a, dx, fvs, rfl, h4, h5, h6, h7, h8, h9⟩ := R.insAt bx h2
      obtain ⟨v, h10, h11⟩ := lookup_rv h7 h9 h3
      exact ⟨a, _, dx, fvs, v, rfl, h5, h6.1, h6.2 f (h8 f (lookup_key h3)), h10, q _ _ (post_rv R h11)⟩
  exact this
/-! ### o.m(..) -/
theorem methD_some {st : Sto} {m : Str} {cs : List (Str × Nat)} {os : List D} {kf : Nat × Nat} (h : methD st m cs os = some kf) : ∃ c al fs, os = [.ref kf.1] ∧ st[kf.1]? = some (.ins c al fs) ∧ fs.lookup m = none ∧ cs.lookup c = some kf.2 := by
  unfold methD at h
  split at h
  · obtain ⟨z, h1, h2⟩ := Option.bind_eq_some_iff.mp h
    split at h2
    · rename_i h3
      obtain ⟨f, h4, rfl⟩ := Option.map_eq_some_iff.mp h2
      exact ⟨z.1, z.2.1, z.2.2, rfl, insB_some h1, by simpa using h3, h4⟩
    · cases h2
  · cases h
theorem recv_base {o : Expr} {m : Str} {env : Env} (h : recvC o = true) : attributeBase o m env (eval o env) = eval o env := by
  unfold recvC at h
  split at h
  · rfl
  · rfl
  · cases h
theorem meth_ht {o : Expr} {m : Str} {es : List Expr} {apos pos : Pos} {env : Env} (hr : recvC o = true) (hl : (apos.endLine == pos.line) = true) (hn : es.length < 29) (hs : ∀ e ∈ es, ∀ a p, e ≠ .Starred a p) : eval (.Call (.Attribute o m apos) es [] pos) env = (do
      let ov ← eval o env
      standAt apos.atName
      let (f, first) ← holding [ov] (getMethod ov m (plainOf o env))
      callWith pos f first (backTo pos (starEach es env)) (backToKw pos (keywordEach [] env))) := by
  have hall : ∀ l : List Expr, (∀ e ∈ l, ∀ a p, e ≠ .Starred a p) → (backTo pos (starEach l env)).all (fun x => !x.1) = true := by
    intro l
    induction l with
    | nil => intro _; rfl
    | cons e l ih =>
      intro h
      rw [star_plain (h e List.mem_cons_self)]
      exact ih fun x hx => h x (List.mem_cons_of_mem _ hx)
  have hf : methodCallForm (es.length + ([] : List Keyword).length) (backTo pos (starEach es env)) (backToKw pos (keywordEach [] env)) = true := by
    unfold methodCallForm
    rw [hall es hs]
    show decide (es.length + 0 + 0 < 30) = true
    exact decide_eq_true (by omega)
  show (do
    let ov ← attributeBase o m env (eval o env)
    standAt apos.atName
    methodCall o m apos pos env ov (es.length + ([] : List Keyword).length) (backTo pos (starEach es env)) (backToKw pos (keywordEach [] env))) = _
  rw [recv_base hr]
  congr 1
  funext ov
  congr 1
  funext u
  exact mcall_line hf hl
theorem je_meth (c : Ctx g ex C cn X) (tk : Takes X W) {m : Str} {cs : List (Str × Nat)} {o : Expr} {i : E} {es : List Expr} {os : List E} {apos pos : Pos} (hm : g.mth.lookup m = some cs) (hr : recvC o = true) (hl : (apos.endLine == pos.line) = true) (hn : es.length < 29)
    (hs : ∀ e ∈ es, ∀ a p, e ≠ .Starred a p) (ho : PE X o (tO X.K ex C W i)) (ha : PA X es (tOs X.K ex C W os)) (hpl : ∀ pos, ∀ l, l <:+ es → (backTo pos (starEach l X.env)).any (·.1) = false) (hb : os.all E.notBor = true) (hlen : es.length = os.length) :
    JE X ex C W (.Call (.Attribute o m apos) es [] pos) (.meth m cs [i] os) := by
  refine .plain ⟨fun pins s σ H Q I h => ?_⟩ rfl
  refine methcall_of ho I ?_ (meth_ht hr hl hn hs)
  obtain ⟨Ω, ι, ow, env, st, R, hr⟩ := h
  have key := ops_of (Q := G1 fun x H1 => ∃ a C dx fs g, x = .ref a ∧ H1 a = some (.ins C dx fs) ∧ Cls X.K C ∧ Meth X.K C m g ∧ fs.lookup m = none ∧
      ∀ s1, Inv X pins σ H1 s1 → wpAny (model X.prog X.w) X.A (callWith pos (.ref g) [.ref a] (backTo pos (starEach es X.env)) (backToKw pos (keywordEach [] X.env))) (EP X pins σ Q) X.xe s1) [i] R
    (show Run X.K ex W Ω ι ow σ H (M.bind (evalOs C [i]) (fun os' => M.bind (fun env st => M.opt (methD st m cs os') env st) fun kf => M.bind (evalOs C os) fun ds => M.call C kf.2 (.ref kf.1 :: ds)) env st) _ from hr) fun ds env1 st1 vs H1 ι1 ow1 f1 R1 ro h1 => by
      have h1 : Run X.K ex W Ω ι1 ow1 σ H1 (M.bind (M.opt (methD st1 m cs ds)) (fun kf => M.bind (evalOs C os) fun ds => M.call C kf.2 (.ref kf.1 :: ds)) env1 st1) _ := h1
      obtain ⟨kf, h2, h3⟩ := Run.opt h1.bind
      obtain ⟨cl, al, fs, rfl, h4, h5, h6⟩ := methD_some h2
      have rb := ro.rb
      match vs, rb with
      | [x], .cons bx .nil =>
        obtain ⟨a, dx, fvs, rfl, h7, h8, h9, h10, h11, h12⟩ := R1.insAt bx h4
        obtain ⟨ga, fd, k, ps, hM, F⟩ := c.mth m cs hm cl kf.2 h6
        refine ⟨a, _, dx, fvs, ga, rfl, h8, h9.1, hM, lookup_no h10 h5, fun s1 I1 => ?_⟩
        have rd : tOs X.K ex C W os σ H1 fun ws H2 => spC X.K ex C kf.2 (.ref a :: ws) H2 Q (WE W σ) := by
          refine ops_of os R1 h3 fun ds env2 st2 ws H2 ι2 ow2 f2 R2 ro2 h4 => ?_
          refine ⟨inΩ Ω ow2, ι2, .ref kf.1 :: ds, st2, R2.enter, .cons (.ref (f2.pre _ _ h7)) ((ro2.rv hb).tr (.less fun a z => prot_in.mp z)), ?_⟩
          have h2 : Run X.K ex W Ω ι2 ow2 σ H2 (M.call C kf.2 (.ref kf.1 :: ds) env2 st2) _ := h4
          unfold M.call at h2
          cases e : C kf.2 (.ref kf.1 :: ds) st2 with
          | ok d fr st' =>
            rw [e] at h2
            exact fun v H' p => h2 v H' (((PostR.leave (ι' := ι2) (ow' := ow2) R2 p).trans f2).trans f1)
          | err y st' =>
            rw [e] at h2
            exact fun cls dd H' p => h2 cls dd H' (p.leave R2)
          | stuck => rw [e] at h2; exact h2
        cases es with
        | nil =>
          cases os with
          | nil => exact PySem.W.callWith_K0 (first := [.ref a]) I1.kIn hM.kp (run_fnSD (us := [.ref a]) (vs := [.ref a]) F.ok F.room F.bd .nil (passAt tk σ) I1 (.cons rfl .nil) rd)
          | cons o' os' => cases hlen
        | cons e es =>
          refine PySem.W.callWith_K (first := [.ref a]) (h₀ := X.base) I1.ok.mod.kin hM.kp (thn (ha.run pos pins s1 σ H1 _ I1 rd) fun us s2 ⟨vs, H2, I2, r, q2⟩ => ⟨I2.kIn, ?_⟩) (star_plain (hs e List.mem_cons_self) es X.env) (hpl pos es (List.suffix_cons e es))
          exact run_fnSD (us := .ref a :: us) (vs := .ref a :: vs) F.ok F.room F.bd .nil (passAt tk σ) I2 (.cons rfl r) (by rw [List.append_nil]; exact q2)
  exact key
/-! ### C(..) -/
theorem cxNo {P : Program} {w : World} {st : List Env} {H : Hp} {s s' : Shared} {e : Value} (h : L2.CX P w st H s (fun _ _ _ => False) e s') : False := by
  obtain ⟨_, _, _, _, _, _, _, _, _, _, _, _, z⟩ := h
  exact z
theorem je_make (c : Ctx g ex C cn X) {x : Str} {f : Nat} {al : List Str} {es : List Expr} {os : List E} {p pos : Pos} (hg : glN cn x = true) (hp : plainName x = true) (hf : g.cls.lookup x = some (f, al)) (hne : es ≠ [])
    (hs : ∀ e ∈ es, ∀ a p, e ≠ .Starred a p) (ha : PA X es (tOs X.K ex C W os)) (hpl : ∀ pos, ∀ l, l <:+ es → (backTo pos (starEach l X.env)).any (·.1) = false) (hb : os.all E.notBor = true) :
    JE X ex C W (.Call (.Name x p) es [] pos) (.make x al f os) := by
  obtain ⟨hmg, hcl, ia, fd, k, ps, hMk, hbd, F, room⟩ := c.cls x f al hf
  cases es with
  | nil => exact absurd rfl hne
  | cons e es =>
    refine .plain ((pe_make (E := fun _ _ _ => False) hMk F room (c.gl hg) hmg hbd .nil (fun _ _ _ _ _ _ _ z => (cxNo z).elim) ha (plain_names hp).1 (star_plain (hs e List.mem_cons_self) es X.env) (hpl pos es (List.suffix_cons e es))).imp fun σ H Q h => ?_) rfl
    obtain ⟨Ω, ι, ow, env, st, R, hr⟩ := h
    refine ops_of os R (show Run X.K ex W Ω ι ow σ H (M.bind (evalOs C os) (fun ds env st => match C f (.ref st.length :: ds) (st ++ [.ins x al []]) with
      | .ok .non _ st' => .ok (pv (.ref st.length)) env st'
      | _ => .stuck) env st) _ from hr) fun ds env1 st1 vs H1 ι1 ow1 f1 R1 ro h1 => ?_
    intro q dx hq hdx hne2
    have R2 := R1.new (o := .own q) hdx
    have f2 : Fr ι1 ow1 H1 ι1 ow1 (upd H1 dx (.own q)) := Fr.grow (upd_keep hdx)
    have hq2 : upd H1 dx (.own q) q = none := by rw [upd_ne (Ne.symm hne2)]; exact hq
    obtain ⟨R3, f3⟩ := R2.box (o := .ins (He.ga X.K x) dx []) (bx := .ins x al []) hq2 fun P' ι' t => .ins upd_same hcl rfl (fun _ z => by cases z) .nil
    have h1 : Run X.K ex W Ω ι1 ow1 σ H1 (match C f (.ref st1.length :: ds) (st1 ++ [.ins x al []]) with
      | .ok .non _ st' => .ok (pv (.ref st1.length)) env1 st'
      | _ => .stuck) _ := h1
    have hι : (ι1 ++ [q])[st1.length]? = some q := by
      rw [← R1.slen, List.getElem?_append_right (Nat.le_refl _), Nat.sub_self]; rfl
    refine ⟨inΩ Ω ow1, ι1 ++ [q], .ref st1.length :: ds, st1 ++ [.ins x al []], R3.enter, ?_, ?_⟩
    · rw [List.append_nil]
      exact .cons (.ref hι) ((((ro.rv hb).tr f2.tr).tr f3.tr).tr (.less fun a z => prot_in.mp z))
    · cases e : C f (.ref st1.length :: ds) (st1 ++ [.ins x al []]) with
      | ok d fr st' =>
        rw [e] at h1
        cases d <;> first | exact h1.elim | skip
        intro v H' p
        have p2 := PostR.leave (ι' := ι1) (ow' := ow1) R3 p
        obtain ⟨ι4, ow4, f4, R4, rv⟩ := p2.weak
        cases rv
        exact ⟨rfl, h1 _ _ (.of_pv ⟨ι4, ow4, ((f1.trans f2).trans f3).trans f4, R4, .ref (f4.pre _ _ hι)⟩)⟩
      | err y st' => rw [e] at h1; exact h1.elim
      | stuck => rw [e] at h1; exact h1.elim
end
end IP

set_option Elab.async false
set_option linter.all false
set_option maxRecDepth 100000
set_option maxHeartbeats 2000000
namespace IP
open PySem PySem.Spec PyProof.Rows L2
/-! ### what is walked -/
structure Items (K : PySem.W.Frag) (J : L2.It) (P : Addr → Prop) (ι : List Addr) (H : Hp) (xs : List D) : Prop where
  next : ∀ (i : Nat) (d : D), xs[i]? = some d → J.go i H ∧ ∀ x H', J.yld i H x H' → (∀ a, P a → ∃ o, H a = some o) → (∀ a o, H a = some o → H' a = some o) ∧ RV K P ι H' x d
  last : ∀ i, xs.length ≤ i → J.stop i H
def ItOk (K : PySem.W.Frag) (J : L2.It) (P : Addr → Prop) (ι : List Addr) (H : Hp) (xs : List D) : Prop := ∀ P' ι' H', Tr P P' ι ι' H H' → Items K J P' ι' H' xs
section
variable {K : PySem.W.Frag} {P P' P2 : Addr → Prop} {ι ι' ι2 : List Addr} {H H' H2 : Hp}
theorem Tr.refl : Tr P P ι ι H H := ⟨fun _ _ h _ => h, fun _ _ _ z => z, fun _ _ h => h⟩
theorem Tr.trans (a : Tr P P' ι ι' H H') (b : Tr P' P2 ι' ι2 H' H2) : Tr P P2 ι ι2 H H2 where
  keep := fun x o h n => b.keep x o (a.keep x o h n) fun z => n (a.sub x o h z)
  sub := fun x o h z => by
    by_cases n : P x
    · exact n
    · exact a.sub x o h (b.sub x o (a.keep x o h n) z)
  pre := fun k x h => b.pre k x (a.pre k x h)
theorem ItOk.tr {J : L2.It} {xs : List D} (h : ItOk K J P ι H xs) (t : Tr P P' ι ι' H H') : ItOk K J P' ι' H' xs := fun _ _ _ t2 => h _ _ _ (t.trans t2)
theorem ItOk.list {a : Addr} {vs : List V} {xs : List D} (h : H a = some (.lst vs)) (n : ¬ P a) (r : RVs K P ι H vs xs) : ItOk K (Itl K a) P ι H xs := fun P' ι' H' t => by
  have h' := t.keep _ _ h n
  have r' := r.tr t
  refine ⟨fun i d e => ?_, fun i hi => ⟨vs, .of h', by rw [r.length]; exact hi⟩⟩
  obtain ⟨v, e1, e2⟩ := r'.get e
  refine ⟨⟨vs, v, .of h', e1⟩, fun x H2 ⟨e3, e4⟩ _ => ⟨fun a o z => by rw [e3]; exact z, ?_⟩⟩
  have e5 := e4 vs (.of h')
  rw [e1] at e5
  cases e5
  rw [e3]
  exact e2
theorem ItOk.tup {a : Addr} {vs : List V} {xs : List D} (h : (H a = some (.tup vs) ∧ ¬ P a) ∨ KT K a vs) (r : RVs K P ι H vs xs) : ItOk K (Itt K a) P ι H xs := fun P' ι' H' t => by
  have h' : SqT K H' a vs := by
    rcases h with ⟨h, n⟩ | h
    · exact .inl (.inl (t.keep _ _ h n))
    · exact .inr h
  have r' := r.tr t
  refine ⟨fun i d e => ?_, fun i hi => ⟨vs, h', by rw [r.length]; exact hi⟩⟩
  obtain ⟨v, e1, e2⟩ := r'.get e
  refine ⟨⟨vs, v, h', e1⟩, fun x H2 ⟨e3, e4⟩ _ => ⟨fun a o z => by rw [e3]; exact z, ?_⟩⟩
  have e5 := e4 vs h'
  rw [e1] at e5
  cases e5
  rw [e3]
  exact e2
theorem ItOk.range (lo : Int) (n : Nat) : ItOk K (Itr lo n) P ι H ((List.range n).map fun m : Nat => D.int (lo + (m : Int))) := fun P' ι' H' t => by
  refine ⟨fun i d e => ?_, fun i hi => (show n ≤ i by simpa using hi)⟩
  have hi : i < n := by
    have := (List.getElem?_eq_some_iff.mp e).1
    simpa using this
  refine ⟨hi, fun x H2 ⟨e3, e4⟩ _ => ⟨fun a o z => by rw [e3]; exact z, ?_⟩⟩
  rw [List.getElem?_map, List.getElem?_range hi] at e
  cases e
  rw [e4]
  exact .int _
end
section
variable {K : PySem.W.Frag} {P P' P2 : Addr → Prop} {ι ι' ι2 : List Addr} {H H' H2 : Hp}
theorem enumD_get {xs : List D} {i : Nat} {d : D} (e : (enumD xs)[i]? = some d) : ∃ x, xs[i]? = some x ∧ d = .tup [.int (i : Nat), x] := by
  unfold enumD at e
  rw [List.getElem?_map, List.getElem?_zipIdx] at e
  cases q : xs[i]? with
  | none => rw [q] at e; cases e
  | some x => rw [q] at e; cases e; exact ⟨x, rfl, by rw [Nat.zero_add]⟩
theorem zipD_get {xs ys : List D} {i : Nat} {d : D} (e : (zipD xs ys)[i]? = some d) : ∃ x y, xs[i]? = some x ∧ ys[i]? = some y ∧ d = .tup [x, y] := by
  unfold zipD at e
  rw [List.getElem?_map] at e
  obtain ⟨p, q, rfl⟩ := Option.map_eq_some_iff.mp e
  obtain ⟨h1, h2⟩ := List.getElem?_zip_eq_some.mp q
  exact ⟨p.1, p.2, h1, h2, rfl⟩
theorem pair_new {T : Addr} {a b : V} {d e : D} (hP : ∀ c, P c → ∃ o, H c = some o) (hT : H T = none) (h1 : RV K P ι H a d) (h2 : RV K P ι H b e) : RV K P ι (upd H T (.tup [a, b])) (.ref T) (.tup [d, e]) := by
  have t : Tr P P ι ι H (upd H T (.tup [a, b])) := Tr.grow (upd_keep hT) fun _ _ _ z => z
  exact .tupH upd_same (fun z => by obtain ⟨o, q⟩ := hP T z; rw [hT] at q; cases q) (.cons (h1.tr t) (.cons (h2.tr t) .nil))
theorem ItOk.enumL {a : Addr} {vs : List V} {xs : List D} (h : H a = some (.lst vs)) (n : ¬ P a) (r : RVs K P ι H vs xs) : ItOk K (Ite K a) P ι H (enumD xs) := fun P' ι' H' t => by
  have h' := t.keep _ _ h n
  have r' := r.tr t
  refine ⟨fun i d e => ?_, fun i hi => ⟨vs, .of h', by rw [r.length]; unfold enumD at hi; simpa using hi⟩⟩
  obtain ⟨x, q, rfl⟩ := enumD_get e
  obtain ⟨v, e1, e2⟩ := r'.get q
  refine ⟨⟨vs, v, .of h', e1⟩, fun y H2 ⟨T, w, e3, e4, e5, e6⟩ hP => ?_⟩
  have e7 := e6 vs (.of h')
  rw [e1] at e7
  cases e7
  subst e3 e5
  exact ⟨upd_keep e4, pair_new hP e4 (.int _) e2⟩
theorem ItOk.enumT {a : Addr} {vs : List V} {xs : List D} (h : (H a = some (.tup vs) ∧ ¬ P a) ∨ KT K a vs) (r : RVs K P ι H vs xs) : ItOk K (IteT K a) P ι H (enumD xs) := fun P' ι' H' t => by
  have h' : SqT K H' a vs := by
    rcases h with ⟨h, n⟩ | h
    · exact .inl (.inl (t.keep _ _ h n))
    · exact .inr h
  have r' := r.tr t
  refine ⟨fun i d e => ?_, fun i hi => ⟨vs, h', by rw [r.length]; unfold enumD at hi; simpa using hi⟩⟩
  obtain ⟨x, q, rfl⟩ := enumD_get e
  obtain ⟨v, e1, e2⟩ := r'.get q
  refine ⟨⟨vs, v, h', e1⟩, fun y H2 ⟨T, w, e3, e4, e5, e6⟩ hP => ?_⟩
  have e7 := e6 vs h'
  rw [e1] at e7
  cases e7
  subst e3 e5
  exact ⟨upd_keep e4, pair_new hP e4 (.int _) e2⟩
end
section
variable {K : PySem.W.Frag} {P P' P2 : Addr → Prop} {ι ι' ι2 : List Addr} {H H' H2 : Hp}
theorem _root_.IP.RV.tupP {v : V} {ds : List D} (h : RV K P ι H v (.tup ds)) : ∃ a xs, v = .ref a ∧ ((H a = some (.tup xs) ∧ ¬ P a) ∨ KT K a xs) ∧ RVs K P ι H xs ds := by
  cases h with
  | tupH e n r => exact ⟨_, _, rfl, .inl ⟨e, n⟩, r⟩
  | tupK e r => exact ⟨_, _, rfl, .inr e, r⟩
theorem sqT_of {a : Addr} {vs : List V} (h : (H a = some (.tup vs) ∧ ¬ P a) ∨ KT K a vs) : SqT K H a vs := by
  rcases h with h | h
  · exact .of h.1
  · exact .inr h
theorem keepT (t : Tr P P' ι ι' H H') {a : Addr} {vs : List V} (h : (H a = some (.tup vs) ∧ ¬ P a) ∨ KT K a vs) : SqT K H' a vs := by
  rcases h with ⟨h, n⟩ | h
  · exact .inl (.inl (t.keep _ _ h n))
  · exact .inr h
theorem ItOk.zipL {a b : Addr} {vs ws : List V} {xs ys : List D} (h : H a = some (.lst vs) ∧ ¬ P a) (k : H b = some (.lst ws) ∧ ¬ P b) (r : RVs K P ι H vs xs) (q : RVs K P ι H ws ys) : ItOk K (Itz K a b) P ι H (zipD xs ys) := fun P' ι' H' t => by
  have h' := t.keep _ _ h.1 h.2
  have k' := t.keep _ _ k.1 k.2
  have r' := r.tr t
  have q' := q.tr t
  refine ⟨fun i d e => ?_, fun i hi => ⟨vs, ws, .of h', .of k', by rw [r.length, q.length]; unfold zipD at hi; simp at hi; omega⟩⟩
  obtain ⟨x, y, p1, p2, rfl⟩ := zipD_get e
  obtain ⟨v, e1, e2⟩ := r'.get p1
  obtain ⟨u, g1, g2⟩ := q'.get p2
  refine ⟨⟨vs, ws, v, u, .of h', .of k', e1, g1⟩, fun z H2 ⟨T, x', y', e3, e4, e5, e6, e7⟩ hP => ?_⟩
  have e8 := e6 vs (.of h')
  have e9 := e7 ws (.of k')
  rw [e1] at e8
  rw [g1] at e9
  cases e8
  cases e9
  subst e3 e5
  exact ⟨upd_keep e4, pair_new hP e4 e2 g2⟩
theorem ItOk.zipT {a b : Addr} {vs ws : List V} {xs ys : List D} (h : (H a = some (.tup vs) ∧ ¬ P a) ∨ KT K a vs) (k : (H b = some (.tup ws) ∧ ¬ P b) ∨ KT K b ws) (r : RVs K P ι H vs xs) (q : RVs K P ι H ws ys) : ItOk K (RZ.ItzT K a b) P ι H (zipD xs ys) := fun P' ι' H' t => by
  have h' := keepT t h
  have k' := keepT t k
  have r' := r.tr t
  have q' := q.tr t
  refine ⟨fun i d e => ?_, fun i hi => ⟨vs, ws, h', k', by rw [r.length, q.length]; unfold zipD at hi; simp at hi; omega⟩⟩
  obtain ⟨x, y, p1, p2, rfl⟩ := zipD_get e
  obtain ⟨v, e1, e2⟩ := r'.get p1
  obtain ⟨u, g1, g2⟩ := q'.get p2
  refine ⟨⟨vs, ws, v, u, h', k', e1, g1⟩, fun z H2 ⟨T, x', y', e3, e4, e5, e6, e7⟩ hP => ?_⟩
  have e8 := e6 vs h'
  have e9 := e7 ws k'
  rw [e1] at e8
  rw [g1] at e9
  cases e8
  cases e9
  subst e3 e5
  exact ⟨upd_keep e4, pair_new hP e4 e2 g2⟩
end
/-- the reading of what is walked -/
def iSeq (K : PySem.W.Frag) (tl : TE) : TI := fun σ H R => tl σ H fun x H1 => ∃ a, x = .ref a ∧ (((∃ xs, SqL K H1 a xs) ∧ R (Itl K a) H1) ∨ ((∃ xs, SqT K H1 a xs) ∧ R (Itt K a) H1))
def tIt (K : PySem.W.Frag) (ex : Nat → Addr × Str) (C : CallF) (W : WX) (k : IK) (os : List E) : TI := match k, os with
  | .rng1, os => iRng1 (tOs K ex C W os)
  | .rng2, os => iRng2 (tOs K ex C W os)
  | .seq, [o] => iSeq K (tO K ex C W o)
  | .enm, os => iEnumA K (tOs K ex C W os)
  | .zip, os => RZ.iZipA K (tOs K ex C W os)
  | _, _ => fun _ _ _ => False
section
variable {g : G} {ex : Nat → Addr × Str} {C : CallF} {cn : Cn} {X : Cx} {W : WX}
theorem pi_seq {tg l : Expr} {tl : TE} (hl : PE X l tl) : PI X tg l (iSeq X.K tl) := by
  refine ⟨fun pins s σ H R I h => ?_⟩
  refine thn (hl.run pins s σ H _ I h) fun v s1 ⟨x, H1, I1, r1, q1⟩ => ?_
  obtain ⟨a, e, q⟩ := q1
  subst e
  cases r1
  rcases q with ⟨⟨xs, hq⟩, q⟩ | ⟨⟨xs, hq⟩, q⟩
  · obtain ⟨its, rv, p, hz⟩ := I1.list hq
    refine wpAny_pyIter_list p.isList ?_
    refine ⟨s1.heap.objs.size, [s1.heap.objs.size], _, _, H1, rfl, I1.kept (t' := s1.toks) fun b o e => Heap.get?_push_of_some _ e, turn_list a _, ⟨_, Heap.get?_push_size _ rfl, rfl, rfl⟩, fun b hb => ?_, q⟩
    have e : b = s1.heap.objs.size := by simpa using hb
    subst e
    exact I1.fpOk (Nat.le_refl _) (I1.hok.fresh (Nat.le_refl _))
  · obtain ⟨its, rv, p, hz⟩ := I1.tuple hq
    refine wpAny_pyIter_tuple (show s1.heap.IsTuple a its.toArray from p) ?_
    refine ⟨s1.heap.objs.size, [s1.heap.objs.size], _, _, H1, rfl, I1.kept (t' := s1.toks) fun b o e => Heap.get?_push_of_some _ e, turn_tuple a _, ⟨_, Heap.get?_push_size _ rfl, rfl, rfl⟩, fun b hb => ?_, q⟩
    have e : b = s1.heap.objs.size := by simpa using hb
    subst e
    exact I1.fpOk (Nat.le_refl _) (I1.hok.fresh (Nat.le_refl _))
/-- the interpreter's walk is the text's -/
theorem it_of {k : IK} {os : List E} {α : Type} {f : List D → M α} {Qf : α → EnvI → Sto → Prop} {Ω : Addr → Prop} {ι : List Addr} {ow : Nat → Option Addr} {env : EnvI} {st : Sto} {σ : L2.St} {H : Hp} {R : L2.It → Hp → Prop} (Re : Rel X.K Ω ι ow env st σ H)
    (hb : ∀ n, k.nb = some n → os.all E.notBor = true ∧ os.length = n)
    (h : Run X.K ex W Ω ι ow σ H (M.bind (evalOs C os) (fun ds => M.bind (M.opt (itemsD k ds)) f) env st) Qf)
    (hq : ∀ xs env1 st1 H1 ι1 ow1 J, Fr ι ow H ι1 ow1 H1 → Rel X.K Ω ι1 ow1 env1 st1 σ H1 → ItOk X.K J (Prot Ω ι1 ow1) ι1 H1 xs → Run X.K ex W Ω ι1 ow1 σ H1 (f xs env1 st1) Qf → R J H1) : tIt X.K ex C W k os σ H R := by
  cases k with
  | rng1 =>
    refine ops_of os Re h fun ds env1 st1 vs H1 ι1 ow1 f1 R1 ro h1 => ?_
    obtain ⟨xs, h2, h3⟩ := Run.opt h1.bind
    unfold itemsD at h2
    split at h2 <;> first | (rename_i z; cases z; done) | skip
    · obtain ⟨c, rfl⟩ := gd_some h2
      rename_i j _
      rw [Bool.and_eq_true] at c
      have rb := ro.rb
      cases rb with
      | cons b t =>
        cases t
        refine ⟨j, by rw [b.int], of_decide_eq_true c.1, of_decide_eq_true c.2, hq _ env1 st1 H1 ι1 ow1 _ f1 R1 ?_ h3⟩
        have := ItOk.range (K := X.K) (P := Prot Ω ι1 ow1) (ι := ι1) (H := H1) 0 j.toNat
        simpa using this
    · cases h2
  | rng2 =>
    refine ops_of os Re h fun ds env1 st1 vs H1 ι1 ow1 f1 R1 ro h1 => ?_
    obtain ⟨xs, h2, h3⟩ := Run.opt h1.bind
    unfold itemsD at h2
    split at h2 <;> first | (rename_i z; cases z; done) | skip
    · obtain ⟨c, rfl⟩ := gd_some h2
      rename_i i j _
      rw [Bool.and_eq_true, Bool.and_eq_true, Bool.and_eq_true] at c
      have rb := ro.rb
      cases rb with
      | cons b t =>
        cases t with
        | cons b2 t =>
          cases t
          exact ⟨i, j, by rw [b.int, b2.int], ⟨of_decide_eq_true c.1.1.1, of_decide_eq_true c.1.1.2, of_decide_eq_true c.1.2, of_decide_eq_true c.2⟩, hq _ env1 st1 H1 ι1 ow1 _ f1 R1 (.range i _) h3⟩
    · cases h2
  | seq =>
    obtain ⟨hb1, hb2⟩ := hb 1 rfl
    match os, hb2 with
    | [o], _ =>
      show tO X.K ex C W o σ H _
      have := ops_of (Q := G1 fun x H1 => ∃ a, x = .ref a ∧ (((∃ xs, SqL X.K H1 a xs) ∧ R (Itl X.K a) H1) ∨ ((∃ xs, SqT X.K H1 a xs) ∧ R (Itt X.K a) H1))) [o] Re h fun ds env1 st1 vs H1 ι1 ow1 f1 R1 ro h1 => by
        obtain ⟨xs, h2, h3⟩ := Run.opt h1.bind
        have rv := ro.rv hb1
        match vs, ds, rv, ro.length.1, ro.length.2 with
        | [v], [d], .cons rv .nil, _, _ =>
          unfold itemsD at h2
          split at h2 <;> first | (rename_i z1 z2; cases z1; done) | skip
          · rename_i ys _ z
            cases h2
            cases z
            cases rv with
            | lst e n r => exact ⟨_, rfl, .inl ⟨⟨_, .of e⟩, hq _ env1 st1 H1 ι1 ow1 _ f1 R1 (.list e n r) h3⟩⟩
          · rename_i ys _ z
            cases h2
            cases z
            cases rv with
            | tupH e n r => exact ⟨_, rfl, .inr ⟨⟨_, .of e⟩, hq _ env1 st1 H1 ι1 ow1 _ f1 R1 (.tup (.inl ⟨e, n⟩) r) h3⟩⟩
            | tupK e r => exact ⟨_, rfl, .inr ⟨⟨_, .inr e⟩, hq _ env1 st1 H1 ι1 ow1 _ f1 R1 (.tup (.inr e) r) h3⟩⟩
          · cases h2
      exact this
  | enm =>
    obtain ⟨hb1, hb2⟩ := hb 1 rfl
    refine ops_of os Re h fun ds env1 st1 vs H1 ι1 ow1 f1 R1 ro h1 => ?_
    obtain ⟨xs, h2, h3⟩ := Run.opt h1.bind
    have rv := ro.rv hb1
    unfold itemsD at h2
    split at h2 <;> first | (rename_i z; cases z; done) | skip
    · cases h2
      cases rv with
      | cons r0 t =>
        cases t
        cases r0 with
        | lst e n r => exact ⟨_, _, rfl, .inl ⟨.of e, hq _ env1 st1 H1 ι1 ow1 _ f1 R1 (.enumL e n r) h3⟩⟩
    · cases h2
      cases rv with
      | cons r0 t =>
        cases t
        cases r0 with
        | tupH e n r => exact ⟨_, _, rfl, .inr ⟨.of e, hq _ env1 st1 H1 ι1 ow1 _ f1 R1 (.enumT (.inl ⟨e, n⟩) r) h3⟩⟩
        | tupK e r => exact ⟨_, _, rfl, .inr ⟨.inr e, hq _ env1 st1 H1 ι1 ow1 _ f1 R1 (.enumT (.inr e) r) h3⟩⟩
    · cases h2
  | zip =>
    obtain ⟨hb1, hb2⟩ := hb 2 rfl
    refine ops_of os Re h fun ds env1 st1 vs H1 ι1 ow1 f1 R1 ro h1 => ?_
    obtain ⟨xs, h2, h3⟩ := Run.opt h1.bind
    have rv := ro.rv hb1
    unfold itemsD at h2
    split at h2 <;> first | (rename_i z; cases z; done) | skip
    · cases h2
      cases rv with
      | cons r0 t =>
        cases t with
        | cons r1 t =>
          cases t
          cases r0 with
          | lst e n r => cases r1 with
            | lst e' n' r' => exact ⟨_, _, _, _, rfl, .inl ⟨.of e, .of e', hq _ env1 st1 H1 ι1 ow1 _ f1 R1 (.zipL ⟨e, n⟩ ⟨e', n'⟩ r r') h3⟩⟩
    · cases h2
      cases rv with
      | cons r0 t =>
        cases t with
        | cons r1 t =>
          cases t
          obtain ⟨a, ys, rfl, e, r⟩ := r0.tupP
          obtain ⟨a', ys', rfl, e', r'⟩ := r1.tupP
          exact ⟨_, _, _, _, rfl, .inr ⟨sqT_of e, sqT_of e', hq _ env1 st1 H1 ι1 ow1 _ f1 R1 (.zipT e e' r r') h3⟩⟩
    · cases h2
end
end IP

set_option Elab.async false
set_option linter.all false
set_option maxRecDepth 100000
set_option maxHeartbeats 2000000
namespace IP
open PySem PySem.Spec PyProof.Rows L2
section
variable {K : PySem.W.Frag} {Ω : Addr → Prop} {ι : List Addr} {ow : Nat → Option Addr} {env : EnvI} {st : Sto} {σ : L2.St} {H : Hp}
/-! ### slots are stored -/
theorem Rel.setVal (R : Rel K Ω ι ow env st σ H) {i : Nat} {d : D} {v : V} (hi : i < env.length) (rv : RV K (Prot Ω ι ow) ι H v d) : Rel K Ω ι (dropo ow i) (env.set i (.val d)) st (σ.set i (some v)) H := by
  have hs : i < σ.length := by rw [← R.len]; exact hi
  have lt : Tr (Prot Ω ι ow) (Prot Ω ι (dropo ow i)) ι ι H H := .less fun b z => prot_dropo z
  refine ⟨by rw [List.length_set, List.length_set]; exact R.len, R.slen, R.nodup, fun b z => ⟨(R.disj b z).1, fun j q => (R.disj b z).2 j (dropo_some q).2⟩, R.trk, fun j b z => R.owio j b (dropo_some z).2, fun j k b z q => R.inj j k b (dropo_some z).2 (dropo_some q).2, fun j b z => ?_, fun j d e => ?_, fun j es e => ?_, fun k es e => ?_⟩
  · obtain ⟨z1, z2⟩ := dropo_some z
    obtain ⟨es, q⟩ := R.owsl j b z2
    exact ⟨es, by rw [List.getElem?_set_ne (Ne.symm z1)]; exact q⟩
  · by_cases ej : j = i
    · subst ej
      rw [List.getElem?_set_self hi] at e
      cases e
      exact ⟨v, List.getElem?_set_self hs, rv.tr lt⟩
    · rw [List.getElem?_set_ne (Ne.symm ej)] at e ⊢
      obtain ⟨v, q1, q2⟩ := R.vals j d e
      exact ⟨v, q1, q2.tr lt⟩
  · by_cases ej : j = i
    · subst ej
      rw [List.getElem?_set_self hi] at e
      cases e
    · rw [List.getElem?_set_ne (Ne.symm ej)] at e ⊢
      obtain ⟨b, ys, q1, q2, q3, q4⟩ := R.owns j es e
      exact ⟨b, ys, by rw [dropo_ne ej]; exact q1, q2, q3, q4.tr lt⟩
  · obtain ⟨b, q1, q2⟩ := R.boxs k es e
    exact ⟨b, q1, q2.tr lt fun _ e => e⟩
def seto (ow : Nat → Option Addr) (i : Nat) (p : Addr) : Nat → Option Addr := fun j => if j = i then some p else ow j
theorem seto_some {ow : Nat → Option Addr} {i j : Nat} {p a : Addr} (h : seto ow i p j = some a) : (j = i ∧ a = p) ∨ (j ≠ i ∧ ow j = some a) := by
  unfold seto at h
  by_cases e : j = i
  · rw [if_pos e] at h
    exact .inl ⟨e, (Option.some.inj h).symm⟩
  · rw [if_neg e] at h; exact .inr ⟨e, h⟩
theorem Rel.setNew {p : Addr} {xs : List V} {ds : List D} (R : Rel K (addp Ω p) ι ow env st σ H) {i : Nat} (hi : i < env.length) (np : ¬ Ω p) (hp : H p = some (.lst xs)) (rv : RVs K (Prot (addp Ω p) ι ow) ι H xs ds) : Rel K Ω ι (seto ow i p) (env.set i (.own ds)) st (σ.set i (some (.ref p))) H := by
  have hs : i < σ.length := by rw [← R.len]; exact hi
  have pp : addp Ω p p := .inr rfl
  have lt : Tr (Prot (addp Ω p) ι ow) (Prot Ω ι (seto ow i p)) ι ι H H := .less fun b z => by
    rcases z with z | z | ⟨j, z⟩
    · exact .inl (.inl z)
    · exact .inr (.inl z)
    · rcases seto_some z with ⟨_, e⟩ | ⟨_, e⟩
      · exact .inl (.inr e)
      · exact .inr (.inr ⟨j, e⟩)
  refine ⟨by rw [List.length_set, List.length_set]; exact R.len, R.slen, R.nodup, fun b z => ⟨(R.disj b (.inl z)).1, fun j q => ?_⟩, fun b z => R.trk b (.inl z), fun j b z => ?_, fun j k b z q => ?_, fun j b z => ?_, fun j d e => ?_, fun j es e => ?_, fun k es e => ?_⟩
  · rcases seto_some q with ⟨_, e⟩ | ⟨_, e⟩
    · rw [e] at z; exact np z
    · exact (R.disj b (.inl z)).2 j e
  · rcases seto_some z with ⟨_, e⟩ | ⟨_, e⟩
    · rw [e]; exact (R.disj p pp).1
    · exact R.owio j b e
  · rcases seto_some z with ⟨e1, e⟩ | ⟨e1, e⟩
    · rcases seto_some q with ⟨f1, f⟩ | ⟨f1, f⟩
      · rw [e1, f1]
      · rw [e] at f; exact absurd f ((R.disj p pp).2 k)
    · rcases seto_some q with ⟨f1, f⟩ | ⟨f1, f⟩
      · rw [f] at e; exact absurd e ((R.disj p pp).2 j)
      · exact R.inj j k b e f
  · rcases seto_some z with ⟨e1, e⟩ | ⟨e1, e⟩
    · rw [e1]; exact ⟨ds, List.getElem?_set_self hi⟩
    · obtain ⟨es, q⟩ := R.owsl j b e
      exact ⟨es, by rw [List.getElem?_set_ne (Ne.symm e1)]; exact q⟩
  · by_cases ej : j = i
    · subst ej
      rw [List.getElem?_set_self hi] at e
      cases e
    · rw [List.getElem?_set_ne (Ne.symm ej)] at e ⊢
      obtain ⟨v, q1, q2⟩ := R.vals j d e
      exact ⟨v, q1, q2.tr lt⟩
  · by_cases ej : j = i
    · subst ej
      rw [List.getElem?_set_self hi] at e
      cases e
      exact ⟨p, xs, by unfold seto; rw [if_pos rfl], List.getElem?_set_self hs, hp, rv.tr lt⟩
    · rw [List.getElem?_set_ne (Ne.symm ej)] at e ⊢
      obtain ⟨b, ys, q1, q2, q3, q4⟩ := R.owns j es e
      exact ⟨b, ys, by unfold seto; rw [if_neg ej]; exact q1, q2, q3, q4.tr lt⟩
  · obtain ⟨b, q1, q2⟩ := R.boxs k es e
    exact ⟨b, q1, q2.tr lt fun _ e => e⟩
/-- others write a place of theirs -/
theorem Rel.writeΩ (R : Rel K Ω ι ow env st σ H) {p : Addr} {o : HO} (hp : Ω p) : Rel K Ω ι ow env st σ (upd H p o) := by
  have tr : Tr (Prot Ω ι ow) (Prot Ω ι ow) ι ι H (upd H p o) := tr_write (.inl hp)
  refine ⟨R.len, R.slen, R.nodup, R.disj, fun b z => ?_, R.owio, R.inj, R.owsl, fun i d e => ?_, fun i ds e => ?_, fun k ds e => ?_⟩
  · by_cases e : b = p
    · subst e; exact ⟨_, upd_same⟩
    · obtain ⟨u, q⟩ := R.trk b z
      exact ⟨u, by rw [upd_ne e]; exact q⟩
  · obtain ⟨v, h1, h2⟩ := R.vals i d e
    exact ⟨v, h1, h2.tr tr⟩
  · obtain ⟨a, xs, h1, h2, h3, h4⟩ := R.owns i ds e
    exact ⟨a, xs, h1, h2, by rw [upd_ne (fun z => (R.disj p hp).2 i (by rw [← z]; exact h1))]; exact h3, h4.tr tr⟩
  · obtain ⟨a, h1, h2⟩ := R.boxs k ds e
    exact ⟨a, h1, h2.tr tr fun o e => by rw [upd_ne (fun z => (R.disj p hp).1 (by rw [← z]; exact List.mem_of_getElem? h1))]; exact e⟩
/-! ### slots forgotten, and as they were -/
theorem wipeI_len : ∀ (is : List Nat) (env : EnvI), (wipeI env is).length = env.length
  | [], _ => rfl
  | i :: is, env => by
    show (wipeI (env.set i .none) is).length = _
    rw [wipeI_len is, List.length_set]
theorem wipeI_get : ∀ (is : List Nat) (env : EnvI) (j : Nat) (s : Slot), (wipeI env is)[j]? = some s → s = .none ∨ (j ∉ is ∧ env[j]? = some s)
  | [], env, j, s, h => .inr ⟨by simp, h⟩
  | i :: is, env, j, s, h => by
    rcases wipeI_get is (env.set i .none) j s h with e | ⟨h1, h2⟩
    · exact .inl e
    · by_cases e : i = j
      · subst e
        by_cases hl : i < env.length
        · rw [List.getElem?_set_self hl] at h2
          exact .inl (Option.some.inj h2).symm
        · rw [List.getElem?_eq_none (by simpa using hl)] at h2; cases h2
      · rw [List.getElem?_set_ne e] at h2
        exact .inr ⟨by simp only [List.mem_cons, not_or]; exact ⟨fun z => e z.symm, h1⟩, h2⟩
theorem backI_len : ∀ (is : List Nat) (env env' : EnvI), (backI env env' is).length = env'.length
  | [], _, _ => rfl
  | i :: is, env, env' => by
    show (backI env (env'.set i (env.getD i .none)) is).length = _
    rw [backI_len is, List.length_set]
theorem backI_get : ∀ (is : List Nat) (env env' : EnvI) (j : Nat) (s : Slot), env.length = env'.length → (backI env env' is)[j]? = some s → (j ∈ is ∧ env[j]? = some s) ∨ (j ∉ is ∧ env'[j]? = some s)
  | [], env, env', j, s, _, h => .inr ⟨by simp, h⟩
  | i :: is, env, env', j, s, hl, h => by
    rcases backI_get is env (env'.set i (env.getD i .none)) j s (by rw [List.length_set]; exact hl) h with ⟨h1, h2⟩ | ⟨h1, h2⟩
    · exact .inl ⟨List.mem_cons_of_mem _ h1, h2⟩
    · by_cases e : i = j
      · subst e
        by_cases hi : i < env'.length
        · rw [List.getElem?_set_self hi] at h2
          refine .inl ⟨List.mem_cons_self, ?_⟩
          rw [List.getD_eq_getElem?_getD, List.getElem?_eq_getElem (by omega)] at h2
          rw [List.getElem?_eq_getElem (by omega)]
          exact h2
        · rw [List.getElem?_eq_none (by simpa using hi)] at h2; cases h2
      · rw [List.getElem?_set_ne e] at h2
        exact .inr ⟨by simp only [List.mem_cons, not_or]; exact ⟨fun z => e z.symm, h1⟩, h2⟩
theorem wipe_idem (σ : L2.St) (vs : List Nat) : ∀ us : List Nat, (∀ u ∈ us, u ∈ vs) → wipe (wipe σ vs) us = wipe σ vs
  | [], _ => rfl
  | u :: us, h => by
    show (wipe (wipe σ vs) us).set u none = _
    rw [wipe_idem σ vs us fun x hx => h x (List.mem_cons_of_mem _ hx)]
    apply List.ext_getElem?
    intro j
    by_cases e : u = j
    · subst e
      by_cases hu : u < (wipe σ vs).length
      · rw [List.getElem?_set_self hu]
        cases q : (wipe σ vs)[u]? with
        | none => rw [List.getElem?_eq_none_iff] at q; omega
        | some x => cases x with
          | none => rfl
          | some y => exact absurd (h u List.mem_cons_self) (wipe_some q).2
      · rw [List.getElem?_eq_none (by simpa using hu), List.getElem?_eq_none (by simpa using hu)]
    · rw [List.getElem?_set_ne e]
theorem wipe_set (σ : L2.St) (i : Nat) (x : Option V) : ∀ vs : List Nat, i ∈ vs → wipe (σ.set i x) vs = wipe σ vs
  | [], h => by cases h
  | v :: vs, h => by
    show (wipe (σ.set i x) vs).set v none = (wipe σ vs).set v none
    by_cases hi : i ∈ vs
    · rw [wipe_set σ i x vs hi]
    · have e : i = v := by
        rcases List.mem_cons.mp h with e | e
        · exact e
        · exact absurd e hi
      subst e
      apply List.ext_getElem?
      intro j
      by_cases ej : i = j
      · subst ej
        by_cases hl : i < σ.length
        · rw [List.getElem?_set_self (by rw [wipe_length, List.length_set]; exact hl), List.getElem?_set_self (by rw [wipe_length]; exact hl)]
        · rw [List.getElem?_eq_none (by rw [List.length_set, wipe_length, List.length_set]; omega), List.getElem?_eq_none (by rw [List.length_set, wipe_length]; omega)]
      · rw [List.getElem?_set_ne ej, List.getElem?_set_ne ej]
        by_cases hj : j ∈ vs
        · have hh : ∀ τ : L2.St, τ.length = σ.length → (wipe τ vs)[j]? = if j < σ.length then some none else none := fun τ ht => by
            by_cases hl : j < σ.length
            · rw [if_pos hl]
              cases q : (wipe τ vs)[j]? with
              | none => rw [List.getElem?_eq_none_iff, wipe_length, ht] at q; omega
              | some y => cases y with
                | none => rfl
                | some z => exact absurd hj (wipe_some q).2
            · rw [if_neg hl, List.getElem?_eq_none (by rw [wipe_length, ht]; omega)]
          rw [hh _ (by rw [List.length_set]), hh _ rfl]
        · rw [wipe_out hj, wipe_out hj, List.getElem?_set_ne ej]
theorem Rel.wipe (R : Rel K Ω ι ow env st σ H) (is : List Nat) : ∃ ow', Rel K Ω ι ow' (wipeI env is) st (L2.wipe σ is) H ∧ (∀ i a, ow' i = some a → ow i = some a) := by
  refine ⟨_, R.slots (by rw [wipeI_len, wipe_length]; exact R.len) (fun i d e => ?_) (fun i ds e => ?_), fun i a z => ?_⟩
  · rcases wipeI_get is env i _ e with q | ⟨q1, q2⟩
    · cases q
    · exact ⟨q2, wipe_out q1⟩
  · rcases wipeI_get is env i _ e with q | ⟨q1, q2⟩
    · cases q
    · exact ⟨q2, wipe_out q1⟩
  · split at z
    · exact z
    · cases z
theorem Fr.less {ow' : Nat → Option Addr} (h : ∀ i a, ow' i = some a → ow i = some a) : Fr ι ow H ι ow' H := by
  refine ⟨fun _ _ z => z, fun _ _ z _ _ => z, fun b o z => ⟨o, z⟩, fun b o _ z => ?_⟩
  rcases z with z | ⟨j, z⟩
  · exact .inl z
  · exact .inr ⟨j, h j b z⟩
/-- behind a block the slots of its own names are as they were -/
theorem Rel.back {Ω' : Addr → Prop} {ι' : List Addr} {ow' : Nat → Option Addr} {env' : EnvI} {st' : Sto} {H' : Hp} {is : List Nat} (R : Rel K Ω ι ow env st σ H) (R' : Rel K Ω' ι' ow' (wipeI env' is) st' (L2.wipe σ is) H') (t : Tr (Prot Ω ι ow) (Prot Ω' ι' ow') ι ι' H H') (hn : noOwn env is = true) :
    Rel K Ω' ι' ow' (backI env env' is) st' σ H' := by
  have hl : env.length = env'.length := by
    have := R'.len
    rw [wipeI_len, wipe_length] at this
    rw [this]; exact R.len
  have noown : ∀ j ∈ is, ∀ ds, env[j]? ≠ some (.own ds) := fun j hj ds e => by
    unfold noOwn at hn
    have := List.all_eq_true.mp hn j hj
    rw [e] at this; cases this
  have keepW : ∀ (j : Nat) (s : Slot), j ∉ is → env'[j]? = some s → (wipeI env' is)[j]? = some s := by
    intro j s hj e
    have : ∀ (is : List Nat) (env : EnvI), j ∉ is → (wipeI env is)[j]? = env[j]? := by
      intro is
      induction is with
      | nil => intro env _; rfl
      | cons i is ih =>
        intro env hj
        show (wipeI (env.set i .none) is)[j]? = _
        simp only [List.mem_cons, not_or] at hj
        rw [ih _ hj.2, List.getElem?_set_ne (Ne.symm hj.1)]
    rw [this is env' hj]; exact e
  refine ⟨by rw [backI_len, ← hl]; exact R.len, R'.slen, R'.nodup, R'.disj, R'.trk, R'.owio, R'.inj, fun i a z => ?_, fun i d e => ?_, fun i ds e => ?_, R'.boxs⟩
  · obtain ⟨ds, q⟩ := R'.owsl i a z
    rcases wipeI_get is env' i _ q with e | ⟨h1, h2⟩
    · cases e
    · refine ⟨ds, ?_⟩
      cases e : (backI env env' is)[i]? with
      | none =>
        rw [List.getElem?_eq_none_iff, backI_len] at e
        have := (List.getElem?_eq_some_iff.mp h2).1
        omega
      | some s =>
        rcases backI_get is env env' i s hl e with ⟨q1, _⟩ | ⟨_, q2⟩
        · exact absurd q1 h1
        · rw [h2] at q2; exact q2.symm
  · rcases backI_get is env env' i _ hl e with ⟨q1, q2⟩ | ⟨q1, q2⟩
    · obtain ⟨v, h1, h2⟩ := R.vals i d q2
      exact ⟨v, h1, h2.tr t⟩
    · obtain ⟨v, h1, h2⟩ := R'.vals i d (keepW i _ q1 q2)
      exact ⟨v, by rw [← wipe_out q1]; exact h1, h2⟩
  · rcases backI_get is env env' i _ hl e with ⟨q1, q2⟩ | ⟨q1, q2⟩
    · exact absurd q2 (noown i q1 ds)
    · obtain ⟨a, xs, h1, h2, h3⟩ := R'.owns i ds (keepW i _ q1 q2)
      exact ⟨a, xs, h1, by rw [← wipe_out q1]; exact h2, h3⟩
end
/-! ### targets -/
def gNames : List Nat → TGs
  | [] => gNil
  | i :: is => gCons (gName i) (gNames is)
def gTg (K : PySem.W.Frag) : Tg → TG
  | .name i => gName i
  | .tup is => fun v σ H Q => gTup K is.length (gNames is) v σ H Q ∨ L2.gLst K is.length (gNames is) v σ H Q
section
variable {K : PySem.W.Frag} {Ω : Addr → Prop} {ι : List Addr} {env : EnvI} {st : Sto} {H : Hp}
theorem names_of : ∀ (is : List Nat) {ow : Nat → Option Addr} {env env' : EnvI} {σ : L2.St} {ds : List D} {vs : List V}, Rel K Ω ι ow env st σ H → setSlots is ds env = some env' → RVs K (Prot Ω ι ow) ι H vs ds → ∀ Q : L2.St → Hp → Prop,
    (∀ σ' ow', Rel K Ω ι ow' env' st σ' H → (∀ i a, ow' i = some a → ow i = some a) → (∀ own : List Nat, is.all own.contains = true → wipe σ' own = wipe σ own) → Q σ' H) → gNames is vs σ H Q := by
  intro is
  induction is with
  | nil =>
    intro ow env env' σ ds vs R h rv Q hq
    cases ds with
    | nil =>
      cases h
      cases rv
      exact ⟨rfl, hq σ ow R (fun _ _ z => z) fun _ _ => rfl⟩
    | cons _ _ => cases h
  | cons i is ih =>
    intro ow env env' σ ds vs R h rv Q hq
    cases ds with
    | nil => cases h
    | cons d ds =>
      cases rv with
      | cons r1 r2 =>
        have h : (if i < env.length then setSlots is ds (env.set i (.val d)) else none) = some env' := h
        by_cases hi : i < env.length
        · rw [if_pos hi] at h
          refine ⟨_, _, rfl, ?_⟩
          have R' := R.setVal hi r1
          refine ih R' h (r2.tr (.less fun b z => prot_dropo z)) Q fun σ' ow' R2 h1 h2 => hq σ' ow' R2 (fun j a z => (dropo_some (h1 j a z)).2) fun own ho => ?_
          rw [List.all_cons, Bool.and_eq_true] at ho
          rw [h2 own ho.2]
          exact wipe_set σ i _ own (by simpa using ho.1)
        · rw [if_neg hi] at h; cases h
/-- a value is stored -/
theorem tg_of {t : Tg} {ow : Nat → Option Addr} {env' : EnvI} {st' : Sto} {σ : L2.St} {d : D} {v : V} (R : Rel K Ω ι ow env st σ H) (h : setTg t (pv d) env st = .ok () env' st') (rv : RV K (Prot Ω ι ow) ι H v d) (Q : L2.St → Hp → Prop)
    (hq : ∀ σ' ow', Rel K Ω ι ow' env' st' σ' H → (∀ i a, ow' i = some a → ow i = some a) → (∀ own : List Nat, tgIn t own = true → wipe σ' own = wipe σ own) → Q σ' H) : gTg K t v σ H Q := by
  cases t with
  | name i =>
    have h : (if i < env.length then Res.ok () (env.set i (slotOf (pv d))) st else .stuck) = .ok () env' st' := h
    by_cases hi : i < env.length
    · rw [if_pos hi] at h
      have hs : slotOf (pv d) = .val d := by cases d <;> rfl
      rw [hs] at h
      cases h
      exact hq _ _ (R.setVal hi rv) (fun j a z => (dropo_some z).2) fun own ho => wipe_set σ i _ own (by simpa [tgIn] using ho)
    · rw [if_neg hi] at h; cases h
  | tup is =>
    have h : (match seqD d with
      | some ds => match setSlots is ds env with | some env' => Res.ok () env' st | none => .stuck
      | _ => .stuck) = .ok () env' st' := h
    have hd : ∃ ds, (d = .tup ds ∨ d = .lst ds) ∧ seqD d = some ds := by cases d <;> first | exact ⟨_, .inl rfl, rfl⟩ | exact ⟨_, .inr rfl, rfl⟩ | cases h
    obtain ⟨ds, hd, es⟩ := hd
    rw [es] at h
    have h : (match setSlots is ds env with | some env' => Res.ok () env' st | none => .stuck) = .ok () env' st' := h
    cases e : setSlots is ds env with
    | none => rw [e] at h; cases h
    | some env2 =>
      rw [e] at h
      cases h
      have hh : ∃ a xs, v = .ref a ∧ (SqT K H a xs ∨ SqL K H a xs) ∧ RVs K (Prot Ω ι ow) ι H xs ds := by
        rcases hd with rfl | rfl
        · obtain ⟨a, xs, rfl, hs, r⟩ := rv.tupO
          exact ⟨a, xs, rfl, .inl hs, r⟩
        · cases rv with
          | lst h n r => exact ⟨_, _, rfl, .inr (.of h), r⟩
      obtain ⟨a, xs, rfl, hs, r⟩ := hh
      have hl : xs.length = is.length := by
        rw [r.length]
        have : ∀ (is : List Nat) (ds : List D) (env env' : EnvI), setSlots is ds env = some env' → ds.length = is.length := by
          intro is
          induction is with
          | nil => intro ds env env' h; cases ds <;> first | rfl | cases h
          | cons i is ih =>
            intro ds env env' h
            cases ds with
            | nil => cases h
            | cons d ds =>
              have h : (if i < env.length then setSlots is ds (env.set i (.val d)) else none) = some env' := h
              split at h
              · exact congrArg (· + 1) (ih _ _ _ h)
              · cases h
        exact this is ds env env' e
      rcases hs with hs | hs
      · exact .inl ⟨a, xs, rfl, hs, hl, names_of is R e r Q fun σ' ow' R2 h1 h2 => hq σ' ow' R2 h1 h2⟩
      · exact .inr ⟨a, xs, rfl, hs, hl, names_of is R e r Q fun σ' ow' R2 h1 h2 => hq σ' ow' R2 h1 h2⟩
end
end IP

set_option Elab.async false
set_option linter.all false
set_option maxRecDepth 100000
set_option maxHeartbeats 2000000
namespace IP
open PySem PySem.Spec PyProof.Rows L2
/-! ### comprehensions -/
def noW : WX := fun _ _ _ _ => False
def tIfs (K : PySem.W.Frag) (ex : Nat → Addr × Str) (C : CallF) : List E → TT
  | [] => tYes
  | [c] => TTm K ex noW (evalE C c)
  | _ => fun _ _ _ => False
def lcStep (C : CallF) (own : List Nat) (t : Tg) (ifs : List E) (e : E) : D → M (Option D) := fun x env st =>
  (M.bind (setTg t (pv x)) fun _ => M.bind (evalIfs C ifs) fun b => if b then M.bind (evalE C e) fun r => M.ret (some r.1) else M.ret none) (wipeI env own) st
section
variable {ex : Nat → Addr × Str} {C : CallF} {X : Cx} {W : WX}
theorem setTg_cases (t : Tg) (r : R) (env : EnvI) (st : Sto) : setTg t r env st = .stuck ∨ ∃ env', setTg t r env st = .ok () env' st := by
  cases t with
  | name i =>
    show (if i < env.length then Res.ok () (env.set i (slotOf r)) st else .stuck) = .stuck ∨ ∃ env', (if i < env.length then Res.ok () (env.set i (slotOf r)) st else .stuck) = .ok () env' st
    by_cases hi : i < env.length
    · rw [if_pos hi]; exact .inr ⟨_, rfl⟩
    · rw [if_neg hi]; exact .inl rfl
  | tup is =>
    obtain ⟨d, b⟩ := r
    have h0 : setTg (.tup is) (d, b) env st = (match seqD d with
      | some ds => match setSlots is ds env with | some env' => Res.ok () env' st | none => .stuck
      | _ => .stuck) := rfl
    rw [h0]
    cases seqD d with
    | none => exact .inl rfl
    | some ds =>
      show (match setSlots is ds env with | some env' => Res.ok () env' st | none => Res.stuck) = .stuck ∨ ∃ env', (match setSlots is ds env with | some env' => Res.ok () env' st | none => Res.stuck) = .ok () env' st
      cases setSlots is ds env with
      | none => exact .inl rfl
      | some e => exact .inr ⟨e, rfl⟩
theorem lc_rd {own : List Nat} {t : Tg} {k : IK} {os ifs : List E} {e : E} {σ : L2.St} {H : Hp} {Q : VK} (hb : ∀ n, k.nb = some n → os.all E.notBor = true ∧ os.length = n) (ht : tgIn t own = true) (hi1 : ifs.length ≤ 1) (h : TEm X.K ex W (evalE C (.lc own t k os ifs e)) σ H Q) :
    tLc (tIt X.K ex C W k os) (gTg X.K t) (tIfs X.K ex C ifs) (TEm X.K ex noW (evalE C e)) own σ H Q := by
  obtain ⟨Ω, ι, ow, env, st, R, hr⟩ := h
  refine it_of R hb (show Run X.K ex W Ω ι ow σ H (M.bind (evalOs C os) (fun ds => M.bind (M.opt (itemsD k ds)) fun xs => M.bind (inBlk own (lcGo (lcStep C own t ifs e) xs [])) fun ys => M.ret (D.lst ys, true)) env st) _ from hr) fun xs env1 st1 H1 ι1 ow1 J f1 R1 ho h1 => ?_
  intro D hD
  have h2 := h1.bind
  unfold inBlk at h2
  by_cases hn : noOwn env1 own = true
  · rw [if_pos hn] at h2
    cases eg : lcGo (lcStep C own t ifs e) xs [] env1 st1 with
    | err x e' s => rw [eg] at h2; exact h2.elim
    | stuck => rw [eg] at h2; exact h2.elim
    | ok ys envE stE =>
      rw [eg] at h2
      have hfin : ∀ v H', PostR X.K Ω ι ow H (.lst ys, true) (backI env1 envE own) stE σ v H' → Q v H' := h2
      clear h2 h1 hr
      refine ⟨fun i m Hc => ∃ ι' ow' env' st' acc accV, i + m = xs.length ∧ Fr ι1 ow1 H1 ι' ow' Hc ∧ Hc D = some (.lst accV) ∧ Rel X.K (addp Ω D) ι' ow' (wipeI env' own) st' (wipe σ own) Hc ∧ RVs X.K (Prot (addp Ω D) ι' ow') ι' Hc accV acc ∧
        lcGo (lcStep C own t ifs e) (xs.drop i) acc env' st' = .ok ys envE stE, ⟨xs.length, ?_⟩, fun i m Hc hW => ?_⟩
      · obtain ⟨ow', R2, hl⟩ := (R1.newp (o := .lst []) hD).wipe own
        exact ⟨ι1, ow', env1, st1, [], [], by omega, (Fr.grow (upd_keep hD)).trans (.less hl), upd_same, R2, .nil, eg⟩
      · obtain ⟨ι', ow', env', st', acc, accV, em, f2, hDc, R2, rA, eq⟩ := hW
        have tr2 := f2.trp (Ω := Ω) hD
        by_cases hi : i < xs.length
        · have ei : xs[i]? = some xs[i] := List.getElem?_eq_getElem hi
          obtain ⟨hgo, hyl⟩ := (ho _ _ _ tr2).next i _ ei
          rw [List.drop_eq_getElem_cons hi] at eq
          have eq1 : (M.bind (lcStep C own t ifs e xs[i]) fun o => match o with
            | some y => if acc.length < 16777216 then lcGo (lcStep C own t ifs e) (xs.drop (i + 1)) (acc ++ [y]) else fun _ _ => .stuck
            | none => lcGo (lcStep C own t ifs e) (xs.drop (i + 1)) acc) env' st' = .ok ys envE stE := eq
          cases es : lcStep C own t ifs e xs[i] env' st' with
          | err x e' s => rw [M.bind_err es] at eq1; cases eq1
          | stuck => rw [M.bind_stuck es] at eq1; cases eq1
          | ok o env2 st2 =>
            rw [M.bind_ok es] at eq1
            refine .inr ⟨hgo, fun H' => ∃ ι' ow' env' st' acc accV, (i + 1) + (m - 1) = xs.length ∧ Fr ι1 ow1 H1 ι' ow' H' ∧ H' D = some (.lst accV) ∧ Rel X.K (addp Ω D) ι' ow' (wipeI env' own) st' (wipe σ own) H' ∧ RVs X.K (Prot (addp Ω D) ι' ow') ι' H' accV acc ∧
              lcGo (lcStep C own t ifs e) (xs.drop (i + 1)) acc env' st' = .ok ys envE stE, fun H' hN => ⟨m - 1, by omega, hN⟩, fun x H' hy => ?_⟩
            obtain ⟨hgr, rv⟩ := hyl x H' hy fun a z => R2.prot_trk z
            have R2 := R2.grow hgr (fun _ z => .inl z) (fun a z => (R2.trk a z).elim fun o e => ⟨o, hgr a o e⟩)
            have rA := rA.tr (Tr.grow hgr fun _ _ _ z => z)
            have f2 := f2.trans (Fr.grow hgr)
            have hDc := hgr D _ hDc
            -- the turn
            have hrun : Run X.K ex noW (addp Ω D) ι' ow' (wipe σ own) H' ((M.bind (setTg t (pv xs[i])) fun _ => M.bind (evalIfs C ifs) fun b => if b then M.bind (evalE C e) fun r => M.ret (some r.1) else M.ret none) (wipeI env' own) st') (fun o' e' s' => o' = o ∧ e' = env2 ∧ s' = st2) := by
              have es' : (M.bind (setTg t (pv xs[i])) fun _ => M.bind (evalIfs C ifs) fun b => if b then M.bind (evalE C e) fun r => M.ret (some r.1) else M.ret none) (wipeI env' own) st' = .ok o env2 st2 := es
              rw [es']
              exact ⟨rfl, rfl, rfl⟩
            rcases setTg_cases t (pv xs[i]) (wipeI env' own) st' with q | ⟨env3, q⟩
            · rw [M.bind_stuck q] at hrun; exact hrun.elim
            · rw [M.bind_ok q] at hrun
              refine tg_of R2 q rv _ fun σ' ow3 R3 hless hw => ?_
              have hwp : wipe σ' own = wipe σ own := by rw [hw own ht, wipe_idem σ own own fun _ z => z]
              refine ⟨hwp, ?_⟩
              have hrun3 : Run X.K ex noW (addp Ω D) ι' ow3 σ' H' ((M.bind (evalIfs C ifs) fun b => if b then M.bind (evalE C e) fun r => M.ret (some r.1) else M.ret none) env3 st') (fun o' e' s' => o' = o ∧ e' = env2 ∧ s' = st2) := by
                cases z : (M.bind (evalIfs C ifs) fun b => if b then M.bind (evalE C e) fun r => M.ret (some r.1) else M.ret none) env3 st' with
                | ok a b c => rw [z] at hrun; exact hrun
                | stuck => rw [z] at hrun; exact hrun
                | err x e' s =>
                  exfalso
                  have es' : (M.bind (setTg t (pv xs[i])) fun _ => M.bind (evalIfs C ifs) fun b => if b then M.bind (evalE C e) fun r => M.ret (some r.1) else M.ret none) (wipeI env' own) st' = .ok o env2 st2 := es
                  rw [M.bind_ok q, z] at es'
                  cases es'
              have f3 : Fr ι1 ow1 H1 ι' ow3 H' := f2.trans (.less hless)
              have rA3 : RVs X.K (Prot (addp Ω D) ι' ow3) ι' H' accV acc := rA.tr (.less fun a z => by
                rcases z with z | z | ⟨j, z⟩
                · exact .inl z
                · exact .inr (.inl z)
                · exact .inr (.inr ⟨j, hless j a z⟩))
              -- behind the test
              have body : ∀ (b : Bool) (ι4 : List Addr) (ow4 : Nat → Option Addr) (env4 : EnvI) (st4 : Sto) (H4 : Hp), Fr ι' ow3 H' ι4 ow4 H4 → Rel X.K (addp Ω D) ι4 ow4 env4 st4 σ' H4 →
                  Run X.K ex noW (addp Ω D) ι4 ow4 σ' H4 ((if b then M.bind (evalE C e) fun r => M.ret (some r.1) else M.ret none : M (Option IP.D)) env4 st4) (fun o' e' s' => o' = o ∧ e' = env2 ∧ s' = st2) →
                  if b = true then TEm X.K ex noW (evalE C e) σ' H4 fun y H5 => ∃ acc, H5 D = some (.lst acc) ∧ acc.length < sizeLine ∧ ∃ ι' ow' env' st' acc' accV, (i + 1) + (m - 1) = xs.length ∧ Fr ι1 ow1 H1 ι' ow' (upd H5 D (.lst (acc ++ [y]))) ∧ (upd H5 D (.lst (acc ++ [y]))) D = some (.lst accV) ∧
                    Rel X.K (addp Ω D) ι' ow' (wipeI env' own) st' (wipe σ own) (upd H5 D (.lst (acc ++ [y]))) ∧ RVs X.K (Prot (addp Ω D) ι' ow') ι' (upd H5 D (.lst (acc ++ [y]))) accV acc' ∧ lcGo (lcStep C own t ifs e) (xs.drop (i + 1)) acc' env' st' = .ok ys envE stE
                  else ∃ ι' ow' env' st' acc accV, (i + 1) + (m - 1) = xs.length ∧ Fr ι1 ow1 H1 ι' ow' H4 ∧ H4 D = some (.lst accV) ∧ Rel X.K (addp Ω D) ι' ow' (wipeI env' own) st' (wipe σ own) H4 ∧ RVs X.K (Prot (addp Ω D) ι' ow') ι' H4 accV acc ∧
                    lcGo (lcStep C own t ifs e) (xs.drop (i + 1)) acc env' st' = .ok ys envE stE := by
                intro b ι4 ow4 env4 st4 H4 f4 R4 hr4
                have hD4 : H4 D = some (.lst accV) := f4.keep D _ hDc (R3.disj D (.inr rfl)).1 (R3.disj D (.inr rfl)).2
                cases b with
                | false =>
                  rw [if_neg Bool.false_ne_true]
                  have hr4' : (none : Option IP.D) = o ∧ env4 = env2 ∧ st4 = st2 := hr4
                  obtain ⟨rfl, rfl, rfl⟩ := hr4'
                  obtain ⟨ow5, R5, hl5⟩ := R4.wipe own
                  rw [hwp] at R5
                  refine ⟨ι4, ow5, env4, st4, acc, accV, by omega, (f3.trans f4).trans (.less hl5), hD4, R5, (rA3.tr f4.tr).tr (.less fun a z => ?_), eq1⟩
                  rcases z with z | z | ⟨j, z⟩
                  · exact .inl z
                  · exact .inr (.inl z)
                  · exact .inr (.inr ⟨j, hl5 j a z⟩)
                | true =>
                  rw [if_pos rfl]
                  refine TEm.of R4 (show Run X.K ex noW (addp Ω D) ι4 ow4 σ' H4 (M.bind (evalE C e) (fun r => M.ret (some r.1)) env4 st4) _ from hr4) fun r env5 st5 y H5 p5 h5 => ?_
                  have h5' : some r.1 = o ∧ env5 = env2 ∧ st5 = st2 := h5
                  obtain ⟨rfl, rfl, rfl⟩ := h5'
                  obtain ⟨ι5, ow5, f5, R5, ry⟩ := p5.weak
                  have hD5 : H5 D = some (.lst accV) := f5.keep D _ hD4 (R4.disj D (.inr rfl)).1 (R4.disj D (.inr rfl)).2
                  by_cases hz : acc.length < 16777216
                  · have eq2 : lcGo (lcStep C own t ifs e) (xs.drop (i + 1)) (acc ++ [r.1]) env5 st5 = .ok ys envE stE := by
                      have eq1' : (if acc.length < 16777216 then lcGo (lcStep C own t ifs e) (xs.drop (i + 1)) (acc ++ [r.1]) else fun _ _ => .stuck) env5 st5 = .ok ys envE stE := eq1
                      rw [if_pos hz] at eq1'
                      exact eq1'
                    have rA5 := (rA3.tr f4.tr).tr f5.tr
                    have R6 := R5.writeΩ (p := D) (o := .lst (accV ++ [y])) (.inr rfl)
                    have tw : Tr (Prot (addp Ω D) ι5 ow5) (Prot (addp Ω D) ι5 ow5) ι5 ι5 H5 (upd H5 D (.lst (accV ++ [y]))) := tr_write (.inl (.inr rfl))
                    obtain ⟨ow7, R7, hl7⟩ := R6.wipe own
                    rw [hwp] at R7
                    refine ⟨accV, hD5, by rw [rA.length, sizeLine_eq]; exact hz, ι5, ow7, env5, st5, acc ++ [r.1], accV ++ [y], by omega, ?_, upd_same, R7, ?_, eq2⟩
                    · have ff := (f3.trans f4).trans f5
                      refine ⟨ff.pre, fun a o e h1 h2 => ?_, fun a o e => ?_, fun a o e z => ?_⟩
                      · rw [upd_ne (ne_of_none e hD)]; exact ff.keep a o e h1 h2
                      · rw [upd_ne (ne_of_none e hD)]; exact ff.dom a o e
                      · refine ff.new a o e ?_
                        rcases z with z | ⟨j, z⟩
                        · exact .inl z
                        · exact .inr ⟨j, hl7 j a z⟩
                    · refine (RVs.append (rA5.tr tw) (.cons (ry.tr tw) .nil)).tr (.less fun a z => ?_)
                      rcases z with z | z | ⟨j, z⟩
                      · exact .inl z
                      · exact .inr (.inl z)
                      · exact .inr (.inr ⟨j, hl7 j a z⟩)
                  · exfalso
                    have eq1' : (if acc.length < 16777216 then lcGo (lcStep C own t ifs e) (xs.drop (i + 1)) (acc ++ [r.1]) else fun _ _ => .stuck) env5 st5 = .ok ys envE stE := eq1
                    rw [if_neg hz] at eq1'
                    cases eq1'
              match ifs, hi1 with
              | [], _ => exact body true ι' ow3 env3 st' H' .refl R3 hrun3
              | [c], _ =>
                refine TEm.of R3 (show Run X.K ex noW (addp Ω D) ι' ow3 σ' H' (M.bind (evalE C c) (fun r => M.bind (match asB r.1 with
                  | some true => evalIfs C []
                  | some false => M.ret false
                  | none => fun _ _ => .stuck) fun b => if b then M.bind (evalE C e) fun r => M.ret (some r.1) else M.ret none) env3 st') _ from by
                    have e0 : evalIfs C [c] = M.bind (evalE C c) fun r => match asB r.1 with
                      | some true => evalIfs C []
                      | some false => M.ret false
                      | none => fun _ _ => .stuck := rfl
                    rw [e0, M.assoc] at hrun3
                    exact hrun3) fun r env4 st4 v H4 p4 h4 => ?_
                cases e4 : asB r.1 with
                | none => rw [e4] at h4; exact h4.elim
                | some b =>
                  rw [e4] at h4
                  obtain ⟨rfl, ι4, ow4, f4, R4⟩ := bool_of p4 e4
                  refine ⟨b, rfl, ?_⟩
                  cases b with
                  | true => exact body true ι4 ow4 env4 st4 H4 f4 R4 (Run.shift f4 h4)
                  | false => exact body false ι4 ow4 env4 st4 H4 f4 R4 (Run.shift f4 h4)
        · refine .inl ⟨(ho _ _ _ tr2).last i (by omega), ?_⟩
          rw [List.drop_eq_nil_of_le (by omega)] at eq
          have eq' : Res.ok acc env' st' = .ok ys envE stE := eq
          cases eq'
          have Rb := R1.back R2 tr2 hn
          refine hfin (.ref D) Hc ⟨ι', ow', D, accV, f1.trans f2, rfl, fun z => ?_, ?_, hDc, Rb, rA⟩
          · obtain ⟨o, e⟩ := R1.trk D z
            rw [hD] at e; cases e
          · cases e : H D with
            | none => rfl
            | some o =>
              obtain ⟨o', e'⟩ := f1.dom D o e
              rw [hD] at e'; cases e'
  · rw [if_neg hn] at h2
    exact h2.elim
end
end IP

set_option Elab.async false
set_option linter.all false
set_option maxRecDepth 100000
set_option maxHeartbeats 2000000
namespace IP
open PySem PySem.Spec PyProof.Rows L2
section
variable {g : G} {ex : Nat → Addr × Str} {C : CallF} {cn : Cn} {X : Cx} {W : WX}
theorem Ctx.blk (c : Ctx g ex C cn X) {scope : Scope} (hk : scope.kind = .function) (s : Shared) (H : Hp) (cl : List (Str × Addr)) (A : Addr) (fp : List Addr) : Ctx g ex C (blkCn cn scope) (X.blk s H scope (compEnvC scope cl A X.env) fp) where
  hN := c.hN
  nd := c.nd
  names := by
    show (scope.names.map fun (n, k) => if (k == NameKind.free && X.env.scope.kind == .function && X.env.kindOf n == some .cell) then (n, NameKind.cell) else (n, k)) = blkN cn.nm scope.names
    unfold blkN
    refine List.map_congr_left fun y _ => ?_
    obtain ⟨n, k⟩ := y
    show (if (k == NameKind.free && X.env.scope.kind == .function && X.env.scope.names.lookup n == some .cell) = true then (n, NameKind.cell) else (n, k)) = _
    rw [c.kind, c.names, show (ScopeKind.function == ScopeKind.function) = true from by decide, Bool.and_true]
  kind := hk
  wr := fun x h => h
  calm := c.calm
  units := c.units
  blt := c.blt
  cons := c.cons
  fns := fun x f h => by
    obtain ⟨a, fd, k, ps, h1, F⟩ := c.fns x f h
    exact ⟨a, fd, k, ps, h1, F.kp, F.bd, F.ok, F.room⟩
  exs := c.exs
  cls := fun x f al h => by
    obtain ⟨h1, h2, a, fd, k, ps, h3, h4, h5, h6⟩ := c.cls x f al h
    exact ⟨h1, h2, a, fd, k, ps, h3, h4, h5, h6⟩
  mth := fun m cs h cl f hl => by
    obtain ⟨a, fd, k, ps, h1, F⟩ := c.mth m cs h cl f hl
    exact ⟨a, fd, k, ps, h1, F.kp, F.bd, F.ok, F.room⟩
  dcs := c.dcs
theorem Ctx.tr (c : Ctx g ex C cn X) (pn : List (Addr × Obj)) (xe : Value → Shared → Prop) : Ctx g ex C cn (X.tr pn xe) where
  hN := c.hN
  nd := c.nd
  names := c.names
  kind := c.kind
  wr := c.wr
  calm := c.calm
  units := c.units
  blt := c.blt
  cons := c.cons
  fns := fun x f h => by
    obtain ⟨a, fd, k, ps, h1, F⟩ := c.fns x f h
    exact ⟨a, fd, k, ps, h1, F.kp, F.bd, F.ok, F.room⟩
  exs := c.exs
  cls := fun x f al h => by
    obtain ⟨h1, h2, a, fd, k, ps, h3, h4, h5, h6⟩ := c.cls x f al h
    exact ⟨h1, h2, a, fd, k, ps, h3, h4, h5, h6⟩
  mth := fun m cs h cl f hl => by
    obtain ⟨a, fd, k, ps, h1, F⟩ := c.mth m cs h cl f hl
    exact ⟨a, fd, k, ps, h1, F.kp, F.bd, F.ok, F.room⟩
  dcs := c.dcs
/-! ### targets -/
theorem pg_nameIx (c : Ctx g ex C cn X) {e : Expr} {i : Nat} (h : nameIx cn e = some i) : PG X e (gName i) ∧ (∀ a p, e ≠ .Starred a p) := by
  cases e <;> first | cases h | skip
  obtain ⟨h1, h2, h3⟩ := c.write (show wrIx cn _ = some i from h)
  exact ⟨pg_name c.nd h1 h2 h3, fun a p z => by cases z⟩
theorem assignEach_plain {e : Expr} (h : ∀ a p, e ≠ .Starred a p) (es : List Expr) (env : Env) : assignEach (e :: es) env = (false, assign e env) :: assignEach es env := by
  cases e with
  | Starred a p => exact absurd rfl (h a p)
  | _ => rfl
theorem pgs_of (c : Ctx g ex C cn X) : ∀ {es : List Expr} {is : List Nat}, mapO (nameIx cn) es = some is → PGs X es (gNames is) ∧ (assignEach es X.env).length = is.length ∧ (assignEach es X.env).findIdx? (·.1) = none
  | [], _, h => by cases h; exact ⟨pgs_nil, rfl, rfl⟩
  | e :: es, is, h => by
    obtain ⟨i, h1, h2⟩ := Option.bind_eq_some_iff.mp h
    obtain ⟨l, h3, h4⟩ := Option.bind_eq_some_iff.mp h2
    cases h4
    obtain ⟨i1, i2, i3⟩ := pgs_of c h3
    obtain ⟨j1, j2⟩ := pg_nameIx c h1
    have ea := assignEach_plain j2 es X.env
    refine ⟨pgs_cons j1 i1 (by rw [ea]; rfl), by rw [ea]; exact congrArg (· + 1) i2, ?_⟩
    rw [ea, List.findIdx?_cons]
    simp [i3]
theorem pg_tgC (c : Ctx g ex C cn X) {e : Expr} {t : Tg} (h : tgC cn e = some t) : PG X e (gTg X.K t) := by
  cases e <;> first | cases h | skip
  · rename_i x p
    obtain ⟨i, h1, rfl⟩ := Option.map_eq_some_iff.mp (show (wrIx cn x).map Tg.name = some t from h)
    exact (pg_nameIx (e := .Name x p) c h1).1
  · rename_i es k p
    obtain ⟨is, h1, rfl⟩ := Option.map_eq_some_iff.mp (show (mapO (nameIx cn) es).map Tg.tup = some t from h)
    obtain ⟨i1, i2, i3⟩ := pgs_of c h1
    exact ⟨fun pins s σ H v u Q I r hw => by
      rcases hw with hw | hw
      · exact (pg_tup c.calm i1 i2 i3).run pins s σ H v u Q I r hw
      · exact (L2.pg_lst c.calm i1 i2 i3).run pins s σ H v u Q I r hw⟩
/-! ### what is walked -/
theorem folded_plain {e : Expr} (h : ∀ a k p, e ≠ .Set a k p) (env : Env) : ∀ x, foldedSetIterable e env x = pure x := by
  intro x
  cases e with
  | Set a k p => exact absurd rfl (h a k p)
  | _ => rfl
theorem bltN_ok {x y : Str} (h : bltN g cn x y = true) : x = y ∧ glN cn x = true ∧ g.blt.contains x = true := by
  unfold bltN at h
  rw [Bool.and_eq_true, Bool.and_eq_true, decide_eq_true_eq] at h
  exact ⟨h.1.1, h.1.2, h.2⟩
theorem isTup_ok {e : Expr} (h : isTup e = true) : ∃ es k p, e = .Tuple es k p := by
  cases e <;> first | cases h; done | exact ⟨_, _, _, rfl⟩
theorem pi_itC (c : Ctx g ex C cn X) {f : Expr → Option E} {tg e : Expr} {k : IK} {os : List E} (h : itC g cn f tg e = some (k, os)) (hf : ∀ e ir, f e = some ir → JE X ex C W e ir ∧ (∀ a p, e ≠ .Starred a p) ∧ ∀ a k p, e ≠ .Set a k p) :
    PI X tg e (tIt X.K ex C W k os) ∧ (∀ n, k.nb = some n → os.all E.notBor = true ∧ os.length = n) ∧ ∀ a k p, e ≠ .Set a k p := by
  have seq : (valC f e).map (fun i => (IK.seq, [i])) = some (k, os) → PI X tg e (tIt X.K ex C W k os) ∧ (∀ n, k.nb = some n → os.all E.notBor = true ∧ os.length = n) ∧ ∀ a k p, e ≠ .Set a k p := fun h => by
    obtain ⟨i, h1, h2⟩ := Option.map_eq_some_iff.mp h
    cases h2
    obtain ⟨j1, j2⟩ := JE.val (W := W) (ex := ex) (C := C) (X := X) h1 fun ir z => (hf e ir z).1
    obtain ⟨ir, h3, _⟩ := Option.bind_eq_some_iff.mp h1
    exact ⟨pi_seq j1, fun n hn => (by cases hn; exact ⟨by rw [List.all_cons, j2]; rfl, rfl⟩), (hf e ir h3).2.2⟩
  have vstar : ∀ {a : Expr} {i : E}, valC f a = some i → ∀ b q, a ≠ .Starred b q := fun {a i} h1 => by
    obtain ⟨ir, h3, _⟩ := Option.bind_eq_some_iff.mp h1
    exact (hf _ ir h3).2.1
  have nostar : ∀ {a : Expr} {i : E}, opdC cn f a = some i → ∀ b q, a ≠ .Starred b q := fun {a i} h1 => by
    unfold opdC at h1
    split at h1
    · intro b q z; cases z
    · exact vstar h1
  unfold itC at h
  split at h
  · rename_i x p0 a p1
    split at h
    · rename_i hc
      obtain ⟨hx, hg, hb⟩ := bltN_ok hc
      obtain ⟨i, h1, h2⟩ := Option.map_eq_some_iff.mp h
      cases h2
      subst hx
      have pa := JE.opd (W := W) (ex := ex) (C := C) c h1 fun ir z => (hf a ir z).1
      have hs := nostar h1
      exact ⟨pi_range1 (c.gl hg) (c.blt _ hb) (pa_cons pa pa_nil (star_plain hs [] X.env)) (star_plain hs [] X.env), fun n z => (by cases z), fun _ _ _ z => (by cases z)⟩
    · split at h
      · rename_i hc
        rw [Bool.and_eq_true] at hc
        obtain ⟨hx, hg, hb⟩ := bltN_ok hc.1
        obtain ⟨es, kk, tp, rfl⟩ := isTup_ok hc.2
        obtain ⟨i, h1, h2⟩ := Option.map_eq_some_iff.mp h
        cases h2
        subst hx
        obtain ⟨j1, j2⟩ := JE.val (W := W) (ex := ex) (C := C) (X := X) h1 fun ir z => (hf a ir z).1
        have hs := star_plain (vstar h1) [] X.env
        exact ⟨pi_enumA (c.gl hg) (c.blt _ hb) (pa_cons j1 pa_nil hs) hs, fun n hn => (by cases hn; exact ⟨by rw [List.all_cons, j2]; rfl, rfl⟩), fun _ _ _ z => (by cases z)⟩
      · exact seq h
  · rename_i x p0 a b p1
    split at h
    · rename_i hc
      obtain ⟨hx, hg, hb⟩ := bltN_ok hc
      obtain ⟨i, h1, h2⟩ := Option.bind_eq_some_iff.mp h
      obtain ⟨j, h3, h4⟩ := Option.map_eq_some_iff.mp h2
      cases h4
      subst hx
      have pa := JE.opd (W := W) (ex := ex) (C := C) c h1 fun ir z => (hf a ir z).1
      have pb := JE.opd (W := W) (ex := ex) (C := C) c h3 fun ir z => (hf b ir z).1
      have sb := star_plain (nostar h3) [] X.env
      have sa := star_plain (nostar h1) [b] X.env
      exact ⟨pi_range2 (c.gl hg) (c.blt _ hb) (pa_cons pa (pa_cons pb pa_nil sb) sa) (by rw [sa, sb]; rfl) sb, fun n z => (by cases z), fun _ _ _ z => (by cases z)⟩
    · split at h
      · rename_i hc
        rw [Bool.and_eq_true] at hc
        obtain ⟨hx, hg, hb⟩ := bltN_ok hc.1
        obtain ⟨es, kk, tp, rfl⟩ := isTup_ok hc.2
        obtain ⟨i, h1, h2⟩ := Option.bind_eq_some_iff.mp h
        obtain ⟨j, h3, h4⟩ := Option.map_eq_some_iff.mp h2
        cases h4
        subst hx
        obtain ⟨j1, j2⟩ := JE.val (W := W) (ex := ex) (C := C) (X := X) h1 fun ir z => (hf a ir z).1
        obtain ⟨l1, l2⟩ := JE.val (W := W) (ex := ex) (C := C) (X := X) h3 fun ir z => (hf b ir z).1
        have sb := star_plain (vstar h3) [] X.env
        have sa := star_plain (vstar h1) [b] X.env
        exact ⟨RZ.pi_zipA (c.gl hg) (c.blt _ hb) (pa_cons j1 (pa_cons l1 pa_nil sb) sa) sa (by rw [sb]; rfl), fun n hn => (by cases hn; exact ⟨by rw [List.all_cons, List.all_cons, j2, l2]; rfl, rfl⟩), fun _ _ _ z => (by cases z)⟩
      · exact seq h
  · exact seq h
theorem je_lc (c : Ctx g ex C cn X) {elt tg iter : Expr} {ifs : List Expr} {scope : Scope} {pos : Pos} {own : List (Str × Nat)} {k : IK} {os fs : List E} {t : Tg} {y : E} (hb : blkB cn scope own = true) (hi : PI X tg iter (tIt X.K ex C W k os)) (hk : ∀ n, k.nb = some n → os.all E.notBor = true ∧ os.length = n) (hset : ∀ a k p, iter ≠ .Set a k p)
    (ht : tgC (blkCn cn scope) tg = some t) (hto : tgIn t (own.map (·.2)) = true) (hl : fs.length ≤ 1)
    (hf : ∀ X', Ctx g ex C (blkCn cn scope) X' → Takes X' noW → PTs X' ifs (tIfs X'.K ex C fs)) (he : ∀ X', Ctx g ex C (blkCn cn scope) X' → Takes X' noW → JE X' ex C noW elt y) :
    JE X ex C W (.ListComp elt [⟨tg, iter, ifs, 0⟩] scope pos) (.lc (own.map (·.2)) t k os fs y) ∧ BlkOk X.N X.env.scope scope own := by
  have hkind : scope.kind = .function := by
    unfold blkB at hb
    simp only [Bool.and_eq_true] at hb
    have h1 := hb.1.1.1
    split at h1
    · assumption
    · cases h1
  have ok : BlkOk X.N X.env.scope scope own := by
    refine blkOk_by ?_
    unfold blkC
    rw [c.names, c.hN]
    exact hb
  refine ⟨.plain ((pe_lc c.calm c.nd hi ok (fun s H A cl fp => pg_tgC (c.blk hkind s H cl A fp) ht) (fun s H A cl fp => hf _ (c.blk hkind s H cl A fp) takes_none5) (fun s H A cl fp => (he _ (c.blk hkind s H cl A fp) takes_none5).pe) (folded_plain hset X.env)).imp fun σ H Q h => lc_rd hk hto hl h) rfl, ok⟩
/-! ### THE THEOREM for expressions -/
theorem opd_star {n : Nat} {e : Expr} {o : E} (h : opdC cn (compE g n cn) e = some o) : ∀ a p, e ≠ .Starred a p := by
  unfold opdC at h
  split at h
  · intro b q z; cases z
  · obtain ⟨ir, h3, _⟩ := Option.bind_eq_some_iff.mp h
    exact JE.notStar n h3
theorem val_star {n : Nat} {e : Expr} {o : E} (h : valC (compE g n cn) e = some o) : ∀ a p, e ≠ .Starred a p := by
  obtain ⟨ir, h3, _⟩ := Option.bind_eq_some_iff.mp h
  exact JE.notStar n h3
theorem comp_set {n : Nat} {e : Expr} {o : E} (h : compE g n cn e = some o) : ∀ a k p, e ≠ .Set a k p := fun a k p z => by
  subst z
  cases n <;> cases h
theorem mapO_mem {α β : Type} {f : α → Option β} : ∀ {xs : List α} {ys : List β}, mapO f xs = some ys → ∀ x ∈ xs, ∃ y, f x = some y
  | [], _, _, x, hx => by cases hx
  | a :: as, ys, h, x, hx => by
    obtain ⟨o, h1, h2⟩ := Option.bind_eq_some_iff.mp h
    obtain ⟨l, h3, h4⟩ := Option.bind_eq_some_iff.mp h2
    rcases List.mem_cons.mp hx with rfl | hx
    · exact ⟨o, h1⟩
    · exact mapO_mem h3 x hx
theorem mapO_suffix {α β : Type} {f : α → Option β} {xs : List α} {ys : List β} (h : mapO f xs = some ys) : ∀ l, l <:+ xs → ∃ zs, mapO f l = some zs := by
  induction xs generalizing ys with
  | nil =>
    intro l hl
    rw [List.suffix_nil.mp hl]
    exact ⟨[], rfl⟩
  | cons a as ih =>
    intro l hl
    obtain ⟨o, h1, h2⟩ := Option.bind_eq_some_iff.mp h
    obtain ⟨m, h3, h4⟩ := Option.bind_eq_some_iff.mp h2
    rcases List.suffix_cons_iff.mp hl with rfl | hl
    · exact ⟨ys, h⟩
    · exact ih h3 l hl
end
end IP

set_option Elab.async false
set_option linter.all false
set_option maxRecDepth 100000
set_option maxHeartbeats 4000000
namespace IP
open PySem PySem.Spec PyProof.Rows L2
section
variable {g : G} {ex : Nat → Addr × Str} {C : CallF}
/-- what is said of every expression -/
def SndE (g : G) (ex : Nat → Addr × Str) (C : CallF) (n : Nat) : Prop := ∀ cn e ir, compE g n cn e = some ir → ∀ X W, Ctx g ex C cn X → Takes X W → JE X ex C W e ir
variable {n : Nat} {cn : Cn} {X : Cx} {W : WX} {ir : E}
theorem opd_of (ih : SndE g ex C n) (c : Ctx g ex C cn X) (tk : Takes X W) {a : Expr} {o : E} (h : opdC cn (compE g n cn) a = some o) : PE X a (tO X.K ex C W o) := JE.opd c h fun ir z => ih cn a ir z X W c tk
theorem vals_of (ih : SndE g ex C n) (c : Ctx g ex C cn X) (tk : Takes X W) {es : List Expr} {os : List E} (h : mapO (valC (compE g n cn)) es = some os) : PA X es (tOs X.K ex C W os) ∧ os.all E.notBor = true :=
  ⟨(args_of (fun e o z => ⟨val_star z, (JE.val z fun ir q => ih cn e ir q X W c tk).1⟩) h).1, notBor_of h⟩
theorem bnd {α β : Type} {o : Option α} {f : α → Option β} {b : β} (h : o.bind f = some b) : ∃ a, o = some a ∧ f a = some b := Option.bind_eq_some_iff.mp h
theorem mp {α β : Type} {o : Option α} {f : α → β} {b : β} (h : o.map f = some b) : ∃ a, o = some a ∧ f a = b := Option.map_eq_some_iff.mp h
theorem s_name (c : Ctx g ex C cn X) {x : Str} {p : Pos} (h : compE g (n + 1) cn (.Name x p) = some ir) : JE X ex C W (.Name x p) ir := by
  have h : (match rdIx cn x with
    | some i => some (.var i)
    | none => (gd (glN cn x && plainName x) ()).bind fun _ => (g.cons.lookup x).map .con) = some ir := h
  cases e : rdIx cn x with
  | some i =>
    rw [e] at h
    cases h
    exact je_var c e
  | none =>
    rw [e] at h
    obtain ⟨u, h1, h2⟩ := bnd h
    have h3 := (gd_some h1).1
    rw [Bool.and_eq_true] at h3
    obtain ⟨d, h4, rfl⟩ := mp h2
    exact je_glo c h3.1 h3.2 h4
theorem s_const {k : Const} {j : Nat} {p : Pos} (h : compE g (n + 1) cn (.Constant k j p) = some ir) : JE X ex C W (.Constant k j p) ir := by
  obtain ⟨d, h1, rfl⟩ := mp (show (conD k).map E.con = some ir from h)
  exact je_con h1
theorem s_tuple (ih : SndE g ex C n) (c : Ctx g ex C cn X) (tk : Takes X W) {es : List Expr} {k : Nat} {p : Pos} (h : compE g (n + 1) cn (.Tuple es k p) = some ir) : JE X ex C W (.Tuple es k p) ir := by
  obtain ⟨os, h1, rfl⟩ := mp (show (mapO (valC (compE g n cn)) es).map E.tup = some ir from h)
  obtain ⟨a, b⟩ := vals_of ih c tk h1
  exact je_tup a b
theorem s_list (ih : SndE g ex C n) (c : Ctx g ex C cn X) (tk : Takes X W) {es : List Expr} {p : Pos} (h : compE g (n + 1) cn (.List es p) = some ir) : JE X ex C W (.List es p) ir := by
  obtain ⟨os, h1, rfl⟩ := mp (show (mapO (valC (compE g n cn)) es).map E.lst = some ir from h)
  obtain ⟨a, b⟩ := vals_of ih c tk h1
  exact je_lst a b
theorem s_binop (ih : SndE g ex C n) (c : Ctx g ex C cn X) (tk : Takes X W) {a b : Expr} {op : Operator} {p : Pos} (h : compE g (n + 1) cn (.BinOp a op b p) = some ir) : JE X ex C W (.BinOp a op b p) ir := by
  obtain ⟨q, h1, h⟩ := bnd (show (opP op).bind (fun p => (opdC cn (compE g n cn) a).bind fun i => (opdC cn (compE g n cn) b).bind fun j => some (E.prim p [i, j])) = some ir from h)
  obtain ⟨i, h2, h⟩ := bnd h
  obtain ⟨j, h3, h⟩ := bnd h
  cases h
  exact je_bin h1 (opd_of ih c tk h2) (opd_of ih c tk h3)
theorem s_unary (ih : SndE g ex C n) (c : Ctx g ex C cn X) (tk : Takes X W) {a : Expr} {op : UnaryOp} {p : Pos} (h : compE g (n + 1) cn (.UnaryOp op a p) = some ir) : JE X ex C W (.UnaryOp op a p) ir := by
  cases op <;> first | cases h | skip
  · obtain ⟨i, h1, rfl⟩ := mp (show (opdC cn (compE g n cn) a).map (fun i => E.prim .inv [i]) = some ir from h)
    exact je_inv (opd_of ih c tk h1)
  · obtain ⟨i, h1, rfl⟩ := mp (show (compE g n cn a).map E.not = some ir from h)
    exact je_not (ih cn a i h1 X W c tk)
  · obtain ⟨i, h1, rfl⟩ := mp (show (opdC cn (compE g n cn) a).map (fun i => E.prim .neg [i]) = some ir from h)
    exact je_neg (opd_of ih c tk h1)
theorem s_boolop (ih : SndE g ex C n) (c : Ctx g ex C cn X) (tk : Takes X W) {vs : List Expr} {op : BoolOp} {p : Pos} (h : compE g (n + 1) cn (.BoolOp op vs p) = some ir) : JE X ex C W (.BoolOp op vs p) ir := by
  match vs, h with
  | [], h => cases op <;> cases h
  | [a], h =>
    have h : compE g n cn a = some ir := by cases op <;> exact h
    exact je_one (ih cn a ir h X W c tk)
  | a :: b :: r, h =>
    cases op
    · obtain ⟨i, h1, h⟩ := bnd (show (compE g n cn a).bind (fun i => (compE g n cn (.BoolOp .And (b :: r) p)).bind fun j => some (E.and i j)) = some ir from h)
      obtain ⟨j, h2, h⟩ := bnd h
      cases h
      exact je_and (ih cn a i h1 X W c tk) (ih cn _ j h2 X W c tk)
    · obtain ⟨i, h1, h⟩ := bnd (show (compE g n cn a).bind (fun i => (compE g n cn (.BoolOp .Or (b :: r) p)).bind fun j => some (E.or i j)) = some ir from h)
      obtain ⟨j, h2, h⟩ := bnd h
      cases h
      exact je_or (ih cn a i h1 X W c tk) (ih cn _ j h2 X W c tk)
theorem s_ifexp (ih : SndE g ex C n) (c : Ctx g ex C cn X) (tk : Takes X W) {t a b : Expr} {p : Pos} (h : compE g (n + 1) cn (.IfExp t a b p) = some ir) : JE X ex C W (.IfExp t a b p) ir := by
  obtain ⟨k, h1, h⟩ := bnd (show (compE g n cn t).bind (fun k => (compE g n cn a).bind fun i => (compE g n cn b).bind fun j => some (E.ite k i j)) = some ir from h)
  obtain ⟨i, h2, h⟩ := bnd h
  obtain ⟨j, h3, h⟩ := bnd h
  cases h
  exact je_ite (ih cn t k h1 X W c tk) (ih cn a i h2 X W c tk) (ih cn b j h3 X W c tk)
theorem s_compare (ih : SndE g ex C n) (c : Ctx g ex C cn X) (tk : Takes X W) {a : Expr} {ops : List CmpOp} {cs : List Expr} {p : Pos} (h : compE g (n + 1) cn (.Compare a ops cs p) = some ir) : JE X ex C W (.Compare a ops cs p) ir := by
  match ops, cs, h with
  | [op], [b], h =>
    have h : (match dcE g cn b with
      | some kvs => (inP op).bind fun nb => (gd (!behindInMarks op b) ()).bind fun _ => (opdC cn (compE g n cn) a).map fun i => .prim (.inK nb kvs) [i]
      | none => match isP op b with
      | some p => (opdC cn (compE g n cn) a).map fun i => .prim p [i]
      | none => (cmpP op).bind fun p => (gd (!behindInMarks op b) ()).bind fun _ => (opdC cn (compE g n cn) a).bind fun i => (opdC cn (compE g n cn) b).bind fun j => some (.prim p [i, j])) = some ir := h
    cases e0 : dcE g cn b with
    | some kvs =>
      rw [e0] at h
      obtain ⟨nb, h1, h⟩ := bnd h
      obtain ⟨u, h2, h⟩ := bnd h
      obtain ⟨i, h3, rfl⟩ := mp h
      exact je_inK c e0 h1 (by simpa using (gd_some h2).1) (opd_of ih c tk h3)
    | none =>
    rw [e0] at h
    dsimp only at h
    cases e : isP op b with
    | some q =>
      rw [e] at h
      obtain ⟨i, h1, rfl⟩ := mp h
      exact je_is e (opd_of ih c tk h1)
    | none =>
      rw [e] at h
      obtain ⟨q, h1, h⟩ := bnd h
      obtain ⟨u, h2, h⟩ := bnd h
      obtain ⟨i, h3, h⟩ := bnd h
      obtain ⟨j, h4, h⟩ := bnd h
      cases h
      exact je_cmp c.units h1 (by simpa using (gd_some h2).1) (opd_of ih c tk h3) (opd_of ih c tk h4)
  | [op, op'], [b, d], h =>
    obtain ⟨q, h1, h⟩ := bnd (show (cmpP op).bind (fun p => (cmpP op').bind fun q => (gd (!lastMarks [op, op'] [b, d]) ()).bind fun _ => (compE g n cn a).bind fun i => (compE g n cn b).bind fun j => (compE g n cn d).bind fun k => some (E.chain p q i j k)) = some ir from h)
    obtain ⟨r, h2, h⟩ := bnd h
    obtain ⟨u, h3, h⟩ := bnd h
    obtain ⟨i, h4, h⟩ := bnd h
    obtain ⟨j, h5, h⟩ := bnd h
    obtain ⟨k, h6, h⟩ := bnd h
    cases h
    exact je_chain c.units h1 h2 (by simpa using (gd_some h3).1) (ih cn a i h4 X W c tk) (ih cn b j h5 X W c tk) (ih cn d k h6 X W c tk)
  | [op, op', op2], [b, d, e], h =>
    obtain ⟨q, h1, h⟩ := bnd (show (cmpP op).bind (fun p => (cmpP op').bind fun q => (cmpP op2).bind fun r => (gd (!lastMarks [op, op', op2] [b, d, e]) ()).bind fun _ => (compE g n cn a).bind fun i => (compE g n cn b).bind fun j => (compE g n cn d).bind fun k => (compE g n cn e).bind fun l => some (E.chain3 p q r i j k l)) = some ir from h)
    obtain ⟨r, h2, h⟩ := bnd h
    obtain ⟨r2, h2b, h⟩ := bnd h
    obtain ⟨u, h3, h⟩ := bnd h
    obtain ⟨i, h4, h⟩ := bnd h
    obtain ⟨j, h5, h⟩ := bnd h
    obtain ⟨k, h6, h⟩ := bnd h
    obtain ⟨l, h7, h⟩ := bnd h
    cases h
    exact je_chain3 c.units h1 h2 h2b (by simpa using (gd_some h3).1) (ih cn a i h4 X W c tk) (ih cn b j h5 X W c tk) (ih cn d k h6 X W c tk) (ih cn e l h7 X W c tk)
  | [], _, h => cases h
  | [_], [], h => cases h
  | [_], _ :: _ :: _, h => cases h
  | [_, _], [], h => cases h
  | [_, _], [_], h => cases h
  | [_, _], _ :: _ :: _ :: _, h => cases h
  | [_, _, _], [], h => cases h
  | [_, _, _], [_], h => cases h
  | [_, _, _], [_, _], h => cases h
  | [_, _, _], _ :: _ :: _ :: _ :: _, h => cases h
  | _ :: _ :: _ :: _ :: _, [], h => cases h
  | _ :: _ :: _ :: _ :: _, _ :: _, h => cases h
theorem s_subscript (ih : SndE g ex C n) (c : Ctx g ex C cn X) (tk : Takes X W) {a b : Expr} {p : Pos} (h : compE g (n + 1) cn (.Subscript a b p) = some ir) : JE X ex C W (.Subscript a b p) ir := by
  have idx : (∀ l u s p, b ≠ .Slice l u s p) → (opdC cn (compE g n cn) a).bind (fun i => (opdC cn (compE g n cn) b).bind fun j => some (E.prim .idx [i, j])) = some ir → JE X ex C W (.Subscript a b p) ir := fun hs h => by
    obtain ⟨i, h1, h⟩ := bnd h
    obtain ⟨j, h2, h⟩ := bnd h
    cases h
    exact je_idx hs (opd_of ih c tk h1) (opd_of ih c tk h2)
  have h0 : (match dcE g cn a with
      | some kvs => (gd (notSlc b) ()).bind fun _ => (opdC cn (compE g n cn) b).map fun i => .prim (.getK kvs) [i]
      | none => subC cn (compE g n cn) a b) = some ir := h
  clear h
  cases e0 : dcE g cn a with
  | some kvs =>
    rw [e0] at h0
    obtain ⟨u, h1, h⟩ := bnd h0
    obtain ⟨i, h2, rfl⟩ := mp h
    refine je_getK c e0 (fun l u s p z => ?_) (opd_of ih c tk h2)
    have := (gd_some h1).1
    rw [z] at this
    cases this
  | none =>
  rw [e0] at h0
  have h0 : subC cn (compE g n cn) a b = some ir := h0
  unfold subC at h0
  split at h0
  · rename_i hr
    unfold revE at hr
    split at hr
    · obtain ⟨i, h1, rfl⟩ := mp h0
      exact je_rev (opd_of ih c tk h1)
    · cases hr
  · cases b with
    | Slice lo hi st p2 =>
      cases st with
      | none =>
        obtain ⟨u, hgd, h⟩ := bnd (show (gd (!(lo.isSome && hi.isSome)) ()).bind (fun _ => (opdC cn (compE g n cn) a).bind fun i => (optO cn (compE g n cn) lo).bind fun l => (optO cn (compE g n cn) hi).bind fun h => some (E.prim (P.slc lo.isSome hi.isSome) (i :: (l ++ h)))) = some ir from h0)
        obtain ⟨i, h1, h⟩ := bnd h
        obtain ⟨l, h2, h⟩ := bnd h
        obtain ⟨k, h3, h⟩ := bnd h
        cases h
        have part : ∀ {lo : Option Expr} {l : List E}, optO cn (compE g n cn) lo = some l → PartO X ex C W lo l := fun {lo l} z => by
          cases lo with
          | none => cases z; exact .no
          | some e =>
            obtain ⟨o, z1, rfl⟩ := mp (show (opdC cn (compE g n cn) e).map (fun a => [a]) = some l from z)
            exact .yes (opd_of ih c tk z1)
        exact je_slc (opd_of ih c tk h1) (part h2) (part h3) (gd_some hgd).1
      | some s =>
        exfalso
        obtain ⟨i, h1, h⟩ := bnd (show (opdC cn (compE g n cn) a).bind (fun i => (opdC cn (compE g n cn) (.Slice lo hi (some s) p2)).bind fun j => some (E.prim .idx [i, j])) = some ir from h0)
        obtain ⟨j, h2, h⟩ := bnd h
        obtain ⟨o, h3, _⟩ := bnd (show (compE g n cn (.Slice lo hi (some s) p2)).bind (fun r => gd r.notBor r) = some j from h2)
        cases n <;> cases h3
    | _ => exact idx (fun _ _ _ _ z => by cases z) h0
theorem plain_of {as : List Expr} {os : List E} (ih : SndE g ex C n) (c : Ctx g ex C cn X) (tk : Takes X W) (h2 : mapO (valC (compE g n cn)) as = some os) : (∀ e ∈ as, ∀ a p, e ≠ .Starred a p) ∧ (∀ pos, ∀ l, l <:+ as → (backTo pos (starEach l X.env)).any (·.1) = false) ∧ as.length = os.length := by
  refine ⟨fun e he => ?_, fun pos l hl => ?_, ?_⟩
  · obtain ⟨o, ho⟩ := mapO_mem h2 e he
    exact val_star ho
  · obtain ⟨zs, hz⟩ := mapO_suffix h2 l hl
    exact (args_of (X := X) (ex := ex) (C := C) (W := W) (fun e o z => ⟨val_star z, (JE.val z fun ir q => ih cn e ir q X W c tk).1⟩) hz).2.2 pos
  · exact (args_of (X := X) (ex := ex) (C := C) (W := W) (fun e o z => ⟨val_star z, (JE.val z fun ir q => ih cn e ir q X W c tk).1⟩) h2).2.1
theorem s_attr (ih : SndE g ex C n) (c : Ctx g ex C cn X) (tk : Takes X W) {o : Expr} {f : Str} {p : Pos} (h : compE g (n + 1) cn (.Attribute o f p) = some ir) : JE X ex C W (.Attribute o f p) ir := by
  cases o <;> first | cases h; done | skip
  rename_i x p0
  obtain ⟨i, h1, rfl⟩ := mp (show (opdC cn (compE g n cn) (.Name x p0)).map (fun i => E.prim (.fld f) [i]) = some ir from h)
  exact je_fld (opd_of ih c tk h1)
theorem s_call (ih : SndE g ex C n) (c : Ctx g ex C cn X) (tk : Takes X W) {f : Expr} {as : List Expr} {ks : List Keyword} {p : Pos} (h : compE g (n + 1) cn (.Call f as ks p) = some ir) : JE X ex C W (.Call f as ks p) ir := by
  cases ks with
  | cons k ks =>
    cases f <;> cases h
  | nil =>
    cases f <;> first | cases h; done | skip
    · -- o.m(..)
      rename_i o m apos
      have h : (match g.mth.lookup m with
        | some cs => (gd (recvC o && (apos.endLine == p.line) && decide (as.length < 29)) ()).bind fun _ => (opdC cn (compE g n cn) o).bind fun i => (mapO (valC (compE g n cn)) as).map fun es => E.meth m cs [i] es
        | none => popE cn (compE g n cn) o m apos as p) = some ir := h
      cases e1 : g.mth.lookup m with
      | some cs =>
        rw [e1] at h
        obtain ⟨u, h0, h⟩ := bnd h
        obtain ⟨i, h1, h⟩ := bnd h
        obtain ⟨os, h2, rfl⟩ := mp h
        have h3 := (gd_some h0).1
        rw [Bool.and_eq_true, Bool.and_eq_true] at h3
        obtain ⟨a, b⟩ := vals_of ih c tk h2
        obtain ⟨z1, z2, z3⟩ := plain_of ih c tk h2
        exact je_meth c tk e1 h3.1.1 h3.1.2 (of_decide_eq_true h3.2) z1 (opd_of ih c tk h1) a z2 b z3
      | none =>
        rw [e1] at h
        have hp : popE cn (compE g n cn) o m apos as p = some ir := h
        clear h
        unfold popE at hp
        split at hp
        · split at hp
          · rename_i e
            subst e
            obtain ⟨i, h1, rfl⟩ := mp hp
            obtain ⟨u, h2, h3⟩ := bnd (show (gd (apos.endLine == p.line) ()).bind (fun _ => rdIx cn _) = some i from h1)
            exact je_pop c h3 (gd_some h2).1
          · cases hp
        · split at hp
          · rename_i e
            subst e
            obtain ⟨i, h1, h5⟩ := bnd hp
            obtain ⟨j, h4, rfl⟩ := mp h5
            obtain ⟨u, h2, h3⟩ := bnd (show (gd (apos.endLine == p.line) ()).bind (fun _ => rdIx cn _) = some i from h1)
            exact je_popAt c h3 (gd_some h2).1 (JE.notStar n h4) (ih cn _ j h4 X W c tk)
          · cases hp
        · cases hp
    · -- f(..)
      rename_i x p0
      have h : (match callF g cn x with
        | some f => (gd (!as.isEmpty) ()).bind fun _ => (mapO (valC (compE g n cn)) as).map (.call f)
        | none => match clsF g cn x with
          | some fa => (gd (!as.isEmpty) ()).bind fun _ => (mapO (valC (compE g n cn)) as).map (.make x fa.2 fa.1)
          | none => match isiT g cn x as with
            | some (a, t) => (opdC cn (compE g n cn) a).map fun i => .prim (.isi t) [i]
            | none => match rgL g cn x as with
              | some e => (opdC cn (compE g n cn) e).map fun i => .prim .listR [i]
              | none => match rgT g cn x as with
                | some e => (opdC cn (compE g n cn) e).map fun i => .prim .tupR [i]
                | none => (callB g cn x as).bind fun p => (mapO (opdC cn (compE g n cn)) as).map (.prim p)) = some ir := h
      have ne : (gd (!as.isEmpty) ()) = some () → as ≠ [] := fun h1 z => by
        have := (gd_some h1).1
        rw [z] at this; cases this
      cases e1 : callF g cn x with
      | some f =>
        rw [e1] at h
        obtain ⟨u, h1, h⟩ := bnd h
        obtain ⟨os, h2, rfl⟩ := mp h
        obtain ⟨a, b⟩ := vals_of ih c tk h2
        obtain ⟨u2, h3, h4⟩ := bnd (show (gd (glN cn x && plainName x) ()).bind (fun _ => g.fns.lookup x) = some f from e1)
        have h5 := (gd_some h3).1
        rw [Bool.and_eq_true] at h5
        obtain ⟨z1, z2, z3⟩ := plain_of ih c tk h2
        exact je_call c tk h5.1 h5.2 h4 (ne h1) z1 a z2 b
      | none =>
        rw [e1] at h
        cases e3 : clsF g cn x with
        | some fa =>
          rw [e3] at h
          obtain ⟨u, h1, h⟩ := bnd h
          obtain ⟨os, h2, rfl⟩ := mp h
          obtain ⟨a, b⟩ := vals_of ih c tk h2
          obtain ⟨u2, h3, h4⟩ := bnd (show (gd (glN cn x && plainName x) ()).bind (fun _ => g.cls.lookup x) = some fa from e3)
          have h5 := (gd_some h3).1
          rw [Bool.and_eq_true] at h5
          obtain ⟨z1, z2, z3⟩ := plain_of ih c tk h2
          exact je_make c h5.1 h5.2 h4 (ne h1) z1 a z2 b
        | none =>
          rw [e3] at h
          cases e2 : isiT g cn x as with
          | some at' =>
            obtain ⟨a, t⟩ := at'
            rw [e2] at h
            obtain ⟨i, h1, rfl⟩ := mp h
            unfold isiT at e2
            split at e2
            · obtain ⟨u, h2, h3⟩ := bnd e2
              obtain ⟨T, h4, h5⟩ := mp h3
              cases h5
              have h6 := (gd_some h2).1
              simp only [Bool.and_eq_true, decide_eq_true_eq] at h6
              obtain ⟨⟨⟨⟨⟨z1, z2⟩, z3⟩, z4⟩, z5⟩, z6⟩ := h6
              exact je_isi c z1 z2 z3 z4 z5 z6 h4 (opd_star h1) (opd_of ih c tk h1)
            · cases e2
          | none =>
            rw [e2] at h
            cases e4 : rgL g cn x as with
            | some a =>
              rw [e4] at h
              obtain ⟨i, h1, rfl⟩ := mp h
              unfold rgL at e4
              split at e4
              · obtain ⟨u, h2, h3⟩ := mp e4
                cases h3
                have h6 := (gd_some h2).1
                simp only [Bool.and_eq_true, decide_eq_true_eq] at h6
                obtain ⟨⟨⟨⟨⟨z1, z2⟩, z3⟩, z4⟩, z5⟩, z6⟩ := h6
                subst z1
                subst z4
                exact je_listR c z2 z3 z5 z6 (opd_star h1) (opd_of ih c tk h1)
              · cases e4
            | none =>
              rw [e4] at h
              cases e5 : rgT g cn x as with
              | some a =>
                rw [e5] at h
                obtain ⟨i, h1, rfl⟩ := mp h
                unfold rgT at e5
                split at e5
                · obtain ⟨u, h2, h3⟩ := mp e5
                  cases h3
                  have h6 := (gd_some h2).1
                  simp only [Bool.and_eq_true, decide_eq_true_eq] at h6
                  obtain ⟨⟨⟨⟨⟨z1, z2⟩, z3⟩, z4⟩, z5⟩, z6⟩ := h6
                  subst z1
                  subst z4
                  exact je_tupR c z2 z3 z5 z6 (opd_star h1) (opd_of ih c tk h1)
                · cases e5
              | none =>
              rw [e5] at h
              obtain ⟨q, h1, h⟩ := bnd h
              obtain ⟨os, h2, rfl⟩ := mp h
              obtain ⟨u, h3, h4⟩ := bnd (show (gd (glN cn x && g.blt.contains x && plainName x) ()).bind (fun _ => match as with | [_] => bltP x | [_, _] => bltP2 x | _ => none) = some q from h1)
              have h6 := (gd_some h3).1
              simp only [Bool.and_eq_true] at h6
              match as, h4, h2 with
              | [a], h4, h2 =>
                obtain ⟨o, h7, h8⟩ := bnd (show (opdC cn (compE g n cn) a).bind (fun y => (some []).bind fun ys => some (y :: ys)) = some os from h2)
                cases h8
                exact je_blt c h6.1.1 h6.1.2 h6.2 h4 (opd_star h7) (opd_of ih c tk h7)
              | [a, b], h4, h2 =>
                obtain ⟨o, h7, h8⟩ := bnd (show (opdC cn (compE g n cn) a).bind (fun y => ((opdC cn (compE g n cn) b).bind fun y => (some []).bind fun ys => some (y :: ys)).bind fun ys => some (y :: ys)) = some os from h2)
                obtain ⟨l, h9, h10⟩ := bnd h8
                obtain ⟨o2, h11, h12⟩ := bnd h9
                cases h12
                cases h10
                exact je_blt2 c h6.1.1 h6.1.2 h6.2 h4 (opd_star h7) (opd_star h11) (opd_of ih c tk h7) (opd_of ih c tk h11)
              | [], h4, h2 => cases h4
              | _ :: _ :: _ :: _, h4, h2 => cases h4
theorem ifs_of (ih : SndE g ex C n) (c : Ctx g ex C cn X) (tk : Takes X noW) {ifs : List Expr} {fs : List E} (h : mapO (compE g n cn) ifs = some fs) (hl : fs.length ≤ 1) : PTs X ifs (tIfs X.K ex C fs) := by
  match ifs, h with
  | [], h => cases h; exact pts_nil
  | [e], h =>
    obtain ⟨o, h1, h2⟩ := bnd (show (compE g n cn e).bind (fun y => (some []).bind fun ys => some (y :: ys)) = some fs from h)
    cases h2
    exact pts_one (ih cn e o h1 X noW c tk).pt
  | _ :: _ :: _, h =>
    obtain ⟨o, h1, h2⟩ := bnd h
    obtain ⟨l, h3, h4⟩ := bnd h2
    obtain ⟨o2, h5, h6⟩ := bnd h3
    obtain ⟨l2, h7, h8⟩ := bnd h6
    cases h4
    cases h8
    simp at hl
theorem s_lc (ih : SndE g ex C n) (c : Ctx g ex C cn X) (tk : Takes X W) {elt : Expr} {gs : List Comprehension} {scope : Scope} {p : Pos} (h : compE g (n + 1) cn (.ListComp elt gs scope p) = some ir) :
    ∃ (own : List (Str × Nat)) (tg iter : Expr) (ifs : List Expr) (k : IK) (os fs : List E) (t : Tg) (y : E), gs = [⟨tg, iter, ifs, 0⟩] ∧ ir = .lc (own.map (·.2)) t k os fs y ∧ blkB cn scope own = true ∧ PI X tg iter (tIt X.K ex C W k os) ∧ (∀ n, k.nb = some n → os.all E.notBor = true ∧ os.length = n) ∧ (∀ a k p, iter ≠ .Set a k p) ∧
      tgC (blkCn cn scope) tg = some t ∧ tgIn t (own.map (·.2)) = true ∧ fs.length ≤ 1 ∧ (∀ X', Ctx g ex C (blkCn cn scope) X' → Takes X' noW → PTs X' ifs (tIfs X'.K ex C fs)) ∧ (∀ X', Ctx g ex C (blkCn cn scope) X' → Takes X' noW → JE X' ex C noW elt y) := by
  match gs, h with
  | [⟨tg, iter, ifs, asy⟩], h =>
    obtain ⟨u0, h0, h⟩ := bnd (show (gd (decide (asy = 0)) ()).bind (fun _ => (ownOf cn.N scope.names).bind fun own => (gd (blkB cn scope own) ()).bind fun _ =>
        (itC g cn (compE g n cn) tg iter).bind fun ki => (tgC (blkCn cn scope) tg).bind fun t => (gd (tgIn t (own.map (·.2))) ()).bind fun _ => (mapO (compE g n (blkCn cn scope)) ifs).bind fun fs => (gd (decide (fs.length ≤ 1)) ()).bind fun _ => (compE g n (blkCn cn scope) elt).bind fun y =>
          some (E.lc (own.map (·.2)) t ki.1 ki.2 fs y)) = some ir from h)
    obtain ⟨own, h1, h⟩ := bnd h
    obtain ⟨u2, h2, h⟩ := bnd h
    obtain ⟨⟨k, os⟩, h3, h⟩ := bnd h
    obtain ⟨t, h4, h⟩ := bnd h
    obtain ⟨u5, h5, h⟩ := bnd h
    obtain ⟨fs, h6, h⟩ := bnd h
    obtain ⟨u7, h7, h⟩ := bnd h
    obtain ⟨y, h8, h⟩ := bnd h
    cases h
    have e0 : asy = 0 := of_decide_eq_true (gd_some h0).1
    subst e0
    obtain ⟨i1, i2, i3⟩ := pi_itC (tg := tg) (W := W) (ex := ex) (C := C) c h3 fun e ir z => ⟨ih cn e ir z X W c tk, JE.notStar n z, comp_set z⟩
    have hl : fs.length ≤ 1 := of_decide_eq_true (gd_some h7).1
    exact ⟨own, tg, iter, ifs, k, os, fs, t, y, rfl, rfl, (gd_some h2).1, i1, i2, i3, h4, (gd_some h5).1, hl, fun X' c' tk' => ifs_of ih c' tk' h6 hl, fun X' c' tk' => ih _ elt y h8 X' noW c' tk'⟩
  | [], h => cases h
  | ⟨_, _, _, _⟩ :: _ :: _, h => cases h
/-- THE THEOREM for expressions -/
theorem sndE : ∀ n, SndE g ex C n := by
  intro n
  induction n with
  | zero => intro cn e ir h; cases h
  | succ n ih =>
    intro cn e ir h X W c tk
    cases e with
    | Name x p => exact s_name c h
    | Constant k j p => exact s_const h
    | Tuple es k p => exact s_tuple ih c tk h
    | List es p => exact s_list ih c tk h
    | BinOp a op b p => exact s_binop ih c tk h
    | UnaryOp op a p => exact s_unary ih c tk h
    | BoolOp op vs p => exact s_boolop ih c tk h
    | IfExp t a b p => exact s_ifexp ih c tk h
    | Compare a ops cs p => exact s_compare ih c tk h
    | Subscript a b p => exact s_subscript ih c tk h
    | Call f as ks p => exact s_call ih c tk h
    | Attribute o f p => exact s_attr ih c tk h
    | ListComp elt gs scope p =>
      obtain ⟨own, tg, iter, ifs, k, os, fs, t, y, rfl, rfl, h1, h2, h3, h4, h5, h6, h7, h8, h9⟩ := s_lc ih c tk h
      exact (je_lc c h1 h2 h3 h4 h5 h6 h7 h8 h9).1
    | _ => cases h
end
end IP

set_option Elab.async false
set_option linter.all false
set_option maxRecDepth 100000
set_option maxHeartbeats 4000000
namespace IP
open PySem PySem.Spec PyProof.Rows L2
/-! ### statements -/
section
variable (K : PySem.W.Frag) (ex : Nat → Addr × Str)
def PostN (Ω : Addr → Prop) (ι : List Addr) (ow : Nat → Option Addr) (H : Hp) (env' : EnvI) (st' : Sto) (σ' : L2.St) (H' : Hp) : Prop := ∃ ι' ow', Fr ι ow H ι' ow' H' ∧ Rel K Ω ι' ow' env' st' σ' H'
/-- a value handed back -/
def PostTE (Ω : Addr → Prop) (ι : List Addr) (ow : Nat → Option Addr) (H : Hp) (d : D) (st' : Sto) (v : V) (H' : Hp) : Prop := ∃ ι', Fr ι ow H ι' noow H' ∧ Rel K Ω ι' noow [] st' [] H' ∧ RV K (Prot Ω ι' noow) ι' H' v d
def PostTF (Ω : Addr → Prop) (ι : List Addr) (ow : Nat → Option Addr) (H : Hp) (ds : List D) (st' : Sto) (v : V) (H' : Hp) : Prop :=
  ∃ ι' p xs, Fr ι ow H ι' noow H' ∧ v = .ref p ∧ ¬ Ω p ∧ (∀ o, H p = some o → ∃ i, ow i = some p) ∧ H' p = some (.lst xs) ∧ Rel K (addp Ω p) ι' noow [] st' [] H' ∧ RVs K (Prot (addp Ω p) ι' noow) ι' H' xs ds
def PostT (Ω : Addr → Prop) (ι : List Addr) (ow : Nat → Option Addr) (H : Hp) (r : R) (st' : Sto) (v : V) (H' : Hp) : Prop :=
  match r with
  | (.lst ds, true) => PostTF K Ω ι ow H ds st' v H'
  | (d, _) => PostTE K Ω ι ow H d st' v H'
def RunS (W : WX) (Ω : Addr → Prop) (ι : List Addr) (ow : Nat → Option Addr) (H : Hp) (D : Ends) (r : Res Fl) : Prop :=
  match r with
  | .ok .nx env' st' => ∀ σ' H', PostN K Ω ι ow H env' st' σ' H' → D.nx σ' H'
  | .ok .brk env' st' => ∀ σ' H', PostN K Ω ι ow H env' st' σ' H' → D.bk σ' H'
  | .ok .ct env' st' => ∀ σ' H', PostN K Ω ι ow H env' st' σ' H' → D.ct σ' H'
  | .ok (.ret d fr) env' st' => ∀ v H', PostT K Ω ι ow H (d, fr) st' v H' → D.rt v H'
  | .err x env' st' => ∀ cls dd σ' H', PostX K ex Ω ι ow H x env' st' σ' cls dd H' → W cls dd σ' H'
  | .stuck => False
def TSm (W : WX) (m : M Fl) : TS := fun D σ H => ∃ Ω ι ow env st, Rel K Ω ι ow env st σ H ∧ RunS K ex W Ω ι ow H D (m env st)
end
section
variable {K : PySem.W.Frag} {ex : Nat → Addr × Str} {Ω : Addr → Prop} {ι : List Addr} {ow : Nat → Option Addr} {env : EnvI} {st : Sto} {σ : L2.St} {H : Hp} {W : WX} {D : Ends}
theorem PostN.trans {ι1 : List Addr} {ow1 : Nat → Option Addr} {H1 H' : Hp} {σ' : L2.St} (f : Fr ι ow H ι1 ow1 H1) (p : PostN K Ω ι1 ow1 H1 env st σ' H') : PostN K Ω ι ow H env st σ' H' := by
  obtain ⟨ι', ow', a, b⟩ := p
  exact ⟨ι', ow', f.trans a, b⟩
theorem PostT.trans {ι1 : List Addr} {ow1 : Nat → Option Addr} {H1 H' : Hp} {r : R} {v : V} (f : Fr ι ow H ι1 ow1 H1) (p : PostT K Ω ι1 ow1 H1 r st v H') : PostT K Ω ι ow H r st v H' := by
  have pE : ∀ d, PostTE K Ω ι1 ow1 H1 d st v H' → PostTE K Ω ι ow H d st v H' := fun d p => by
    obtain ⟨ι', a, b, c⟩ := p
    exact ⟨ι', f.trans a, b, c⟩
  have pF : ∀ ds, PostTF K Ω ι1 ow1 H1 ds st v H' → PostTF K Ω ι ow H ds st v H' := fun ds p => by
    obtain ⟨ι', q, xs, a, e1, e2, e3, e4, R, r⟩ := p
    refine ⟨ι', q, xs, f.trans a, e1, e2, fun o e => ?_, e4, R, r⟩
    obtain ⟨o', e'⟩ := f.dom q o e
    obtain ⟨i, hi⟩ := e3 o' e'
    rcases f.new q o e (.inr ⟨i, hi⟩) with z | z
    · exfalso
      obtain ⟨k, hk⟩ := List.getElem?_of_mem z
      exact (R.disj q (.inr rfl)).1 (List.mem_of_getElem? (a.pre k q (f.pre k q hk)))
    · exact z
  obtain ⟨d, b⟩ := r
  cases b
  · cases d <;> exact pE _ p
  · cases d <;> first | exact pE _ p | exact pF _ p
theorem RunS.shift {ι1 : List Addr} {ow1 : Nat → Option Addr} {H1 : Hp} {r : Res Fl} (f : Fr ι ow H ι1 ow1 H1) (h : RunS K ex W Ω ι ow H D r) : RunS K ex W Ω ι1 ow1 H1 D r := by
  cases r with
  | ok a e s =>
    cases a with
    | nx => exact fun σ' H' p => h σ' H' (p.trans f)
    | brk => exact fun σ' H' p => h σ' H' (p.trans f)
    | ct => exact fun σ' H' p => h σ' H' (p.trans f)
    | ret d fr => exact fun v H' p => h v H' (p.trans f)
  | err x e s => exact fun cls dd σ' H' p => h cls dd σ' H' (p.trans f)
  | stuck => exact h
/-- an expression within a statement -/
theorem RunS.bind {α : Type} {m : M α} {f : α → M Fl} (σ : L2.St) (h : RunS K ex W Ω ι ow H D (M.bind m f env st)) : Run K ex W Ω ι ow σ H (m env st) fun a e s => RunS K ex W Ω ι ow H D (f a e s) := by
  cases e : m env st with
  | ok a e' s => rw [M.bind_ok e] at h; exact h
  | err x e' s => rw [M.bind_err e] at h; exact fun cls dd H' p => h cls dd σ H' p
  | stuck => rw [M.bind_stuck e] at h; exact h
theorem TEm.ofS {m : M R} {f : R → M Fl} {Q : VK} (R : Rel K Ω ι ow env st σ H) (h : RunS K ex W Ω ι ow H D (M.bind m f env st))
    (hq : ∀ r env1 st1 v H1, PostR K Ω ι ow H r env1 st1 σ v H1 → RunS K ex W Ω ι ow H D (f r env1 st1) → Q v H1) : TEm K ex W m σ H Q :=
  ⟨Ω, ι, ow, env, st, R, (h.bind σ).imp fun r e s hr v H' p => hq r e s v H' p hr⟩
/-- the frame is left -/
theorem Rel.drop (R : Rel K Ω ι ow env st σ H) : Rel K Ω ι noow [] st [] H ∧ Fr ι ow H ι noow H ∧ ∀ a, Prot Ω ι noow a → Prot Ω ι ow a := by
  have hp : ∀ a, Prot Ω ι noow a → Prot Ω ι ow a := fun a z => by
    rcases z with z | z | ⟨i, z⟩
    · exact .inl z
    · exact .inr (.inl z)
    · cases z
  refine ⟨⟨rfl, R.slen, R.nodup, fun a z => ⟨(R.disj a z).1, fun i q => (by cases q)⟩, R.trk, fun i a z => (by cases z), fun i j a z => (by cases z), fun i a z => (by cases z), fun i d e => (by simp at e), fun i d e => (by simp at e), fun k ds e => ?_⟩, .less fun i a z => (by cases z), hp⟩
  obtain ⟨a, h1, h2⟩ := R.boxs k ds e
  exact ⟨a, h1, h2.tr (.less hp) fun _ e => e⟩
theorem PostR.toT {r : R} {env' : EnvI} {st' : Sto} {v : V} {H' : Hp} (p : PostR K Ω ι ow H r env' st' σ v H') : PostT K Ω ι ow H r st' v H' := by
  have pE : ∀ d, PostE K Ω ι ow H d env' st' σ v H' → PostTE K Ω ι ow H d st' v H' := fun d p => by
    obtain ⟨ι', ow', a, b, c⟩ := p
    obtain ⟨R, f, hp⟩ := b.drop
    exact ⟨ι', a.trans f, R, c.tr (.less hp)⟩
  have pF : ∀ ds, PostF K Ω ι ow H ds env' st' σ v H' → PostTF K Ω ι ow H ds st' v H' := fun ds p => by
    obtain ⟨ι', ow', q, xs, a, e1, e2, e3, e4, b, c⟩ := p
    obtain ⟨R, f, hp⟩ := b.drop
    exact ⟨ι', q, xs, a.trans f, e1, e2, fun o e => (by rw [e3] at e; cases e), e4, R, c.tr (.less hp)⟩
  obtain ⟨d, b⟩ := r
  cases b
  · cases d <;> exact pE _ p
  · cases d <;> first | exact pE _ p | exact pF _ p
end
/-- what is said of a statement, of a block -/
def JS (X : Cx) (ex : Nat → Addr × Str) (C : CallF) (sub : Nat → Nat → Option Bool) (N : Nat) (W : WX) (s : Stmt) (ir : S) : Prop := PS X s (TSm X.K ex W (evalS C sub N ir))
def JSs (X : Cx) (ex : Nat → Addr × Str) (C : CallF) (sub : Nat → Nat → Option Bool) (N : Nat) (W : WX) (s : List Stmt) (ir : List S) : Prop := PSs X s (TSm X.K ex W (evalSs C sub N ir))
theorem _root_.L2.PS.imp {X : Cx} {s : Stmt} {t t' : TS} (h : PS X s t) (hi : ∀ D σ H, t' D σ H → t D σ H) : PS X s t' := ⟨fun pins s σ H D I hw => h.run pins s σ H D I (hi D σ H hw)⟩
theorem _root_.L2.PSs.imp {X : Cx} {s : List Stmt} {t t' : TS} (h : PSs X s t) (hi : ∀ D σ H, t' D σ H → t D σ H) : PSs X s t' := ⟨fun pins s σ H D I hw => h.run pins s σ H D I (hi D σ H hw)⟩
section
variable {g : G} {ex : Nat → Addr × Str} {C : CallF} {sub : Nat → Nat → Option Bool} {N : Nat} {cn : Cn} {X : Cx} {W : WX}
theorem post0 {K : PySem.W.Frag} {Ω : Addr → Prop} {ι : List Addr} {ow : Nat → Option Addr} {env : EnvI} {st : Sto} {σ : L2.St} {H : Hp} (R : Rel K Ω ι ow env st σ H) : PostN K Ω ι ow H env st σ H := ⟨ι, ow, .refl, R⟩
theorem js_pass {pos : Pos} : JS X ex C sub N W (.Pass pos) .pass := ps_pass.imp fun D σ H ⟨Ω, ι, ow, env, st, R, h⟩ => h σ H (post0 R)
theorem js_break {pos : Pos} : JS X ex C sub N W (.Break pos) .brk := ps_break.imp fun D σ H ⟨Ω, ι, ow, env, st, R, h⟩ => h σ H (post0 R)
theorem js_cont {pos : Pos} : JS X ex C sub N W (.Continue pos) .ct := ps_continue.imp fun D σ H ⟨Ω, ι, ow, env, st, R, h⟩ => h σ H (post0 R)
theorem jss_nil : JSs X ex C sub N W [] [] := pss_nil.imp fun D σ H ⟨Ω, ι, ow, env, st, R, h⟩ => h σ H (post0 R)
theorem jss_cons {s : Stmt} {ss : List Stmt} {i : S} {is : List S} (h1 : JS X ex C sub N W s i) (h2 : JSs X ex C sub N W ss is) : JSs X ex C sub N W (s :: ss) (i :: is) := by
  refine (pss_cons h1 h2).imp fun D σ H ⟨Ω, ι, ow, env, st, R, h⟩ => ?_
  have h : RunS X.K ex W Ω ι ow H D (M.bind (evalS C sub N i) (fun f => match f with
    | .nx => evalSs C sub N is
    | .brk => M.ret .brk
    | .ct => M.ret .ct
    | .ret d fr => M.ret (.ret d fr)) env st) := h
  refine ⟨Ω, ι, ow, env, st, R, ?_⟩
  cases e : evalS C sub N i env st with
  | err x e' s => rw [M.bind_err e] at h; exact h
  | stuck => rw [M.bind_stuck e] at h; exact h
  | ok f e' s =>
    rw [M.bind_ok e] at h
    cases f with
    | nx =>
      intro σ' H' p
      obtain ⟨ι', ow', f, R'⟩ := p
      exact ⟨Ω, ι', ow', e', s, R', RunS.shift f h⟩
    | brk => exact h
    | ct => exact h
    | ret d fr => exact h
theorem noComp_swaps {e : Expr} (h : noComp e = true) (t : Option Expr) (l : Nat) (env : Env) : swapsWith e t l env = pure false := by
  cases e <;> first | rfl | cases h
theorem js_expr {e : Expr} {i : E} {pos : Pos} (hn : noComp e = true) (he : JE X ex C W e i) : JS X ex C sub N W (.Expr e pos) (.expr i) := by
  refine (ps_expr he.pe (noComp_swaps hn _ _ _)).imp fun D σ H ⟨Ω, ι, ow, env, st, R, h⟩ => ?_
  refine TEm.ofS R (show RunS X.K ex W Ω ι ow H D (M.bind (evalE C i) (fun _ => M.ret .nx) env st) from h) fun r env1 st1 v H1 p h1 => ?_
  obtain ⟨ι', ow', f, R', _⟩ := p.weak
  exact h1 σ H1 ⟨ι', ow', f, R'⟩
theorem js_retN {pos : Pos} : JS X ex C sub N W (.Return none pos) .retN := ps_retN.imp fun D σ H ⟨Ω, ι, ow, env, st, R, h⟩ =>
  h .non H ((post_rv R .non).toT)
theorem js_ret {e : Expr} {i : E} {pos : Pos} (he : PE X e (TEm X.K ex W (evalE C i))) (hv : ∀ k, i ≠ .var k) : JS X ex C sub N W (.Return (some e) pos) (.ret i) := by
  refine (ps_ret he).imp fun D σ H ⟨Ω, ι, ow, env, st, R, h⟩ => ?_
  have h : RunS X.K ex W Ω ι ow H D (M.bind (evalE C i) (fun r => M.ret (.ret r.1 r.2)) env st) := by
    cases i <;> first | exact absurd rfl (hv _) | exact h
  exact TEm.ofS R h fun r env1 st1 v H1 p h1 => h1 v H1 p.toT
theorem js_retVar (c : Ctx g ex C cn X) {x : Str} {i : Nat} {pos p : Pos} (hx : rdIx cn x = some i) : JS X ex C sub N W (.Return (some (.Name x p)) pos) (.ret (.var i)) := by
  obtain ⟨h1, h2, h3⟩ := c.read hx
  refine (ps_ret (pe_var h1 h2 (plain_names h3).1 (plain_names h3).2.1)).imp fun D σ H ⟨Ω, ι, ow, env, st, R, h⟩ => ?_
  have h : RunS X.K ex W Ω ι ow H D (match env[i]? with
    | some (.val d) => .ok (.ret d false) env st
    | some (.own ds) => .ok (.ret (.lst ds) true) env st
    | _ => .stuck) := h
  cases q : env[i]? with
  | none => rw [q] at h; exact h.elim
  | some sl =>
    rw [q] at h
    cases sl with
    | none => exact h.elim
    | val d =>
      obtain ⟨v, e1, e2⟩ := R.vals i d q
      exact ⟨v, e1, h v H (show PostT X.K Ω ι ow H (d, false) st v H from (post_rv R e2).toT)⟩
    | own ds =>
      obtain ⟨a, xs, e1, e2, e3, e4⟩ := R.owns i ds q
      obtain ⟨R', f, hp⟩ := R.drop
      have np : ¬ Ω a := fun z => (R.disj a z).2 i e1
      have Ra : Rel X.K (addp Ω a) ι noow [] st [] H := by
        refine ⟨rfl, R.slen, R.nodup, fun b z => ⟨?_, fun j q => (by cases q)⟩, fun b z => ?_, fun i a z => (by cases z), fun i j a z => (by cases z), fun i a z => (by cases z), fun i d e => (by simp at e), fun i d e => (by simp at e), fun k es e => ?_⟩
        · rcases z with z | z
          · exact (R.disj b z).1
          · rw [z]; exact R.owio i a e1
        · rcases z with z | z
          · exact R.trk b z
          · rw [z]; exact ⟨_, e3⟩
        · obtain ⟨b, z1, z2⟩ := R.boxs k es e
          refine ⟨b, z1, z2.tr (.less fun c z => ?_) fun _ e => e⟩
          rcases z with (z | z) | z | ⟨j, z⟩
          · exact .inl z
          · exact .inr (.inr ⟨i, by rw [z]; exact e1⟩)
          · exact .inr (.inl z)
          · cases z
      refine ⟨.ref a, e2, h (.ref a) H ⟨ι, a, xs, f, rfl, np, fun o _ => ⟨i, e1⟩, e3, Ra, e4.tr (.less fun c z => ?_)⟩⟩
      rcases z with (z | z) | z | ⟨j, z⟩
      · exact .inl z
      · exact .inr (.inr ⟨i, by rw [z]; exact e1⟩)
      · exact .inr (.inl z)
      · cases z
theorem js_if {t : Expr} {a b : List Stmt} {k : E} {i j : List S} {pos : Pos} (ht : JE X ex C W t k) (ha : JSs X ex C sub N W a i) (hb : JSs X ex C sub N W b j) : JS X ex C sub N W (.If t a b pos) (.ite k i j) := by
  refine (ps_if ht.pt ha hb).imp fun D σ H ⟨Ω, ι, ow, env, st, R, h⟩ => ?_
  refine TEm.ofS R (show RunS X.K ex W Ω ι ow H D (M.bind (evalE C k) (fun r => match asB r.1 with
    | some true => evalSs C sub N i
    | some false => evalSs C sub N j
    | none => fun _ _ => .stuck) env st) from h) fun r env1 st1 v H1 p h1 => ?_
  cases e : asB r.1 with
  | none => rw [e] at h1; exact h1.elim
  | some b =>
    rw [e] at h1
    obtain ⟨rfl, ι', ow', f, R'⟩ := bool_of p e
    refine ⟨b, rfl, ?_⟩
    cases b with
    | true => rw [if_pos rfl]; exact ⟨Ω, ι', ow', env1, st1, R', RunS.shift f h1⟩
    | false => rw [if_neg Bool.false_ne_true]; exact ⟨Ω, ι', ow', env1, st1, R', RunS.shift f h1⟩
/-! ### assignments -/
/-- a value stored at a name -/
theorem PostR.set {r : R} {env' : EnvI} {st' : Sto} {v : V} {H' : Hp} {K : PySem.W.Frag} {Ω : Addr → Prop} {ι : List Addr} {ow : Nat → Option Addr} {σ : L2.St} {H : Hp} {i : Nat} (p : PostR K Ω ι ow H r env' st' σ v H') (hi : i < env'.length) : PostN K Ω ι ow H (env'.set i (slotOf r)) st' (σ.set i (some v)) H' := by
  have pE : ∀ d, PostE K Ω ι ow H d env' st' σ v H' → PostN K Ω ι ow H (env'.set i (.val d)) st' (σ.set i (some v)) H' := fun d p => by
    obtain ⟨ι', ow', a, b, c⟩ := p
    exact ⟨ι', dropo ow' i, a.trans (.dropo i), b.setVal hi c⟩
  have pF : ∀ ds, PostF K Ω ι ow H ds env' st' σ v H' → PostN K Ω ι ow H (env'.set i (.own ds)) st' (σ.set i (some v)) H' := fun ds p => by
    obtain ⟨ι', ow', q, xs, a, rfl, e2, e3, e4, b, c⟩ := p
    refine ⟨ι', seto ow' i q, ⟨a.pre, a.keep, a.dom, fun x o e z => ?_⟩, b.setNew hi e2 e4 c⟩
    rcases z with z | ⟨j, z⟩
    · exact a.new x o e (.inl z)
    · rcases seto_some z with ⟨_, z⟩ | ⟨_, z⟩
      · rw [z, e3] at e; cases e
      · exact a.new x o e (.inr ⟨j, z⟩)
  obtain ⟨d, b⟩ := r
  cases b
  · cases d <;> exact pE _ p
  · cases d <;> first | exact pE _ p | exact pF _ p
theorem asg_rd {i : Nat} {k : E} {D : Ends} {σ : L2.St} {H : Hp} (h : TSm X.K ex W (evalS C sub N (.asg (.name i) k)) D σ H) : TEm X.K ex W (evalE C k) σ H fun v H1 => D.nx (σ.set i (some v)) H1 := by
  obtain ⟨Ω, ι, ow, env, st, R, h⟩ := h
  refine TEm.ofS R (show RunS X.K ex W Ω ι ow H D (M.bind (evalE C k) (fun r => M.bind (setTg (.name i) r) fun _ => M.ret .nx) env st) from h) fun r env1 st1 v H1 p h1 => ?_
  by_cases hi : i < env1.length
  · have e : setTg (.name i) r env1 st1 = .ok () (env1.set i (slotOf r)) st1 := if_pos hi
    rw [M.bind_ok e] at h1
    exact h1 _ _ (p.set hi)
  · have e : setTg (.name i) r env1 st1 = .stuck := if_neg hi
    rw [M.bind_stuck e] at h1
    exact h1.elim
theorem js_set (c : Ctx g ex C cn X) {x : Str} {e : Expr} {i : Nat} {k : E} {px pos : Pos} (hx : wrIx cn x = some i) (hs : noComp e = true) (he : JE X ex C W e k) : JS X ex C sub N W (.Assign [.Name x px] e pos) (.asg (.name i) k) := by
  obtain ⟨h1, h2, h3⟩ := c.write hx
  exact (ps_set c.nd h1 h2 he.pe (noComp_swaps hs _ _ _) h3).imp fun D σ H h => asg_rd h
theorem js_tup (c : Ctx g ex C cn X) {es : List Expr} {e : Expr} {t : Tg} {k : E} {k1 : Nat} {p1 pos : Pos} (ht : tgC cn (.Tuple es k1 p1) = some t) (hs : noComp e = true) (hn : notTup e = true) (he : JE X ex C W e k) : JS X ex C sub N W (.Assign [.Tuple es k1 p1] e pos) (.asg t k) := by
  have hw : swappedStores [.Tuple es k1 p1] e X.env = pure none := by
    cases e <;> first | rfl | cases hn
  refine (ps_asg he.pe (pg_tgC c ht) (by cases e <;> first | rfl | cases hs) hw rfl).imp fun D σ H ⟨Ω, ι, ow, env, st, R, h⟩ => ?_
  obtain ⟨is, _, rfl⟩ := mp (show (mapO (nameIx cn) es).map Tg.tup = some t from ht)
  refine TEm.ofS R (show RunS X.K ex W Ω ι ow H D (M.bind (evalE C k) (fun r => M.bind (setTg (.tup is) r) fun _ => M.ret .nx) env st) from h) fun r env1 st1 v H1 p h1 => ?_
  obtain ⟨ι1, ow1, f1, R1, rv⟩ := p.weak
  have e0 : setTg (.tup is) r env1 st1 = setTg (.tup is) (pv r.1) env1 st1 := rfl
  rcases setTg_cases (.tup is) (pv r.1) env1 st1 with q | ⟨env2, q⟩
  · rw [M.bind_stuck (e0.trans q)] at h1; exact h1.elim
  · rw [M.bind_ok (e0.trans q)] at h1
    exact tg_of R1 q rv _ fun σ' ow' R2 hl _ => h1 σ' H1 ⟨ι1, ow', f1.trans (.less hl), R2⟩
end
end IP

set_option Elab.async false
set_option linter.all false
set_option maxRecDepth 100000
set_option maxHeartbeats 4000000
namespace IP
open PySem PySem.Spec PyProof.Rows L2
section
variable {g : G} {ex : Nat → Addr × Str} {C : CallF} {sub : Nat → Nat → Option Bool} {N : Nat} {cn : Cn} {X : Cx} {W : WX}
theorem PostN.trans' {K : PySem.W.Frag} {Ω : Addr → Prop} {ι ι1 : List Addr} {ow ow1 : Nat → Option Addr} {H H1 H' : Hp} {env : EnvI} {st : Sto} {σ' : L2.St} (f : Fr ι ow H ι1 ow1 H1) (p : PostN K Ω ι1 ow1 H1 env st σ' H') : PostN K Ω ι ow H env st σ' H' := p.trans f
/-- y = [..]: the block shares the line -/
theorem js_setLc (c : Ctx g ex C cn X) {x : Str} {i : Nat} {px pos spos : Pos} {elt tg iter : Expr} {ifs : List Expr} {scope : Scope} {own : List (Str × Nat)} {k : IK} {os fs : List E} {t : Tg} {y : E} (hx : wrIx cn x = some i) (hs : swapOk cn x px (.ListComp elt [⟨tg, iter, ifs, 0⟩] scope pos) = true)
    (hb : blkB cn scope own = true) (hi : PI X tg iter (tIt X.K ex C W k os)) (hk : ∀ n, k.nb = some n → os.all E.notBor = true ∧ os.length = n) (hset : ∀ a k p, iter ≠ .Set a k p)
    (ht : tgC (blkCn cn scope) tg = some t) (hto : tgIn t (own.map (·.2)) = true) (hl : fs.length ≤ 1)
    (hf : ∀ X', Ctx g ex C (blkCn cn scope) X' → Takes X' noW → PTs X' ifs (tIfs X'.K ex C fs)) (he : ∀ X', Ctx g ex C (blkCn cn scope) X' → Takes X' noW → JE X' ex C noW elt y) :
    JS X ex C sub N W (.Assign [.Name x px] (.ListComp elt [⟨tg, iter, ifs, 0⟩] scope pos) spos) (.asg (.name i) (.lc (own.map (·.2)) t k os fs y)) := by
  obtain ⟨h1, h2, h3⟩ := c.write hx
  have hkind : scope.kind = .function := by
    unfold blkB at hb
    simp only [Bool.and_eq_true] at hb
    have h1 := hb.1.1.1
    split at h1
    · assumption
    · cases h1
  have ok : BlkOk X.N X.env.scope scope own := by
    refine blkOk_by ?_
    unfold blkC
    rw [c.names, c.hN]
    exact hb
  have hs : (match cn.nm.lookup x with | some .local => (px.line == pos.line) && !(scope.names.any fun (n, k) => n == x && (k == .local || k == .cell)) | _ => false) = true := hs
  split at hs
  · rename_i el
    rw [Bool.and_eq_true, Bool.not_eq_true'] at hs
    have el' : X.env.scope.names.lookup x = some .local := by rw [c.names]; exact el
    have sw : swapsWith (.ListComp elt [⟨tg, iter, ifs, 0⟩] scope pos) (some (.Name x px)) spos.line X.env = pure true := sw_true c.kind el' hs.1 hs.2
    refine (ps_setLc (g := gTg X.K t) (tt := tIfs X.K ex C fs) (te := TEm X.K ex noW (evalE C y)) c.calm c.nd h1 el' sw hi ok (fun s H A cl fp => pg_tgC (c.blk hkind s H cl A fp) ht) (fun s H A cl fp => hf _ (c.blk hkind s H cl A fp) takes_none5) (fun s H A cl fp => (he _ (c.blk hkind s H cl A fp) takes_none5).pe) (folded_plain hset X.env)).imp fun D σ H h => ?_
    exact lc_rd hk hto hl (asg_rd h)
  · cases hs
/-! ### a, b = x, y -/
theorem locT_ok {cn : Cn} {x : Str} (h : locT cn x = true) : cn.nm.lookup x = some .local := by
  unfold locT at h
  split at h
  · assumption
  · cases h
/-- several new lists that are not stored yet -/
def addl (Ω : Addr → Prop) (ps : List Addr) : Addr → Prop := fun a => Ω a ∨ a ∈ ps
inductive RRs (K : PySem.W.Frag) (P : Addr → Prop) (ι : List Addr) (H : Hp) : List Addr → List V → List R → Prop
  | nil : RRs K P ι H [] [] []
  | val {v : V} {r : R} {ps : List Addr} {vs : List V} {rs : List R} (h : slotOf r = .val r.1) (h2 : RV K P ι H v r.1) (t : RRs K P ι H ps vs rs) : RRs K P ι H ps (v :: vs) (r :: rs)
  | own {p : Addr} {xs : List V} {ds : List D} {ps : List Addr} {vs : List V} {rs : List R} (h : H p = some (.lst xs)) (r : RVs K P ι H xs ds) (n : p ∉ ps) (t : RRs K P ι H ps vs rs) : RRs K P ι H (p :: ps) (.ref p :: vs) ((.lst ds, true) :: rs)
theorem RRs.less {K : PySem.W.Frag} {P P' : Addr → Prop} {ι : List Addr} {H : Hp} (h : ∀ a, P' a → P a) : ∀ {ps : List Addr} {vs : List V} {rs : List R}, RRs K P ι H ps vs rs → RRs K P' ι H ps vs rs
  | _, _, _, .nil => .nil
  | _, _, _, .val e r t => .val e (r.tr (.less h)) (RRs.less h t)
  | _, _, _, .own e r n t => .own e (r.tr (.less h)) n (RRs.less h t)
theorem RRs.length {K : PySem.W.Frag} {P : Addr → Prop} {ι : List Addr} {H : Hp} : ∀ {ps : List Addr} {vs : List V} {rs : List R}, RRs K P ι H ps vs rs → vs.length = rs.length
  | _, _, _, .nil => rfl
  | _, _, _, .val _ _ t => congrArg (· + 1) (RRs.length t)
  | _, _, _, .own _ _ _ t => congrArg (· + 1) (RRs.length t)
def tEs (K : PySem.W.Frag) (ex : Nat → Addr × Str) (C : CallF) (W : WX) : List E → TA
  | [] => tNil
  | e :: es => tCons (TEm K ex W (evalE C e)) (tEs K ex C W es)
section
variable {K : PySem.W.Frag} {Ω Ω' : Addr → Prop} {ι ι' : List Addr} {ow ow' : Nat → Option Addr} {env : EnvI} {st : Sto} {σ : L2.St} {H H' : Hp}
theorem PostX.wk {x : Exc} {cls : Value} {dd : Option Addr} {H2 : Hp} (h : ∀ a, Ω a → Ω' a) (f : Fr ι ow H ι' ow' H') (p : PostX K ex Ω' ι' ow' H' x env st σ cls dd H2) : PostX K ex Ω ι ow H x env st σ cls dd H2 := by
  obtain ⟨ι2, ow2, f2, R, h1, h2⟩ := p
  refine ⟨ι2, ow2, f.trans f2, R.less h, h1, ?_⟩
  cases e : x.a with
  | none => trivial
  | some d =>
    rw [e] at h2
    obtain ⟨ad, v, z1, z2, z3⟩ := h2
    refine ⟨ad, v, z1, z2, z3.tr (.less fun a z => ?_)⟩
    rcases z with z | z
    · exact .inl (h a z)
    · exact .inr z
theorem Run.wk {α : Type} {r : Res α} {Q : α → EnvI → Sto → Prop} (h : ∀ a, Ω a → Ω' a) (f : Fr ι ow H ι' ow' H') (z : Run K ex W Ω ι ow σ H r Q) : Run K ex W Ω' ι' ow' σ H' r Q := by
  cases r with
  | ok a e s => exact z
  | err x e s => exact fun cls dd H2 p => z cls dd H2 (PostX.wk h f p)
  | stuck => exact z
/-- what a result is -/
theorem PostR.cases {r : R} {env' : EnvI} {st' : Sto} {v : V} (p : PostR K Ω ι ow H r env' st' σ v H') : (slotOf r = .val r.1 ∧ PostE K Ω ι ow H r.1 env' st' σ v H') ∨ ∃ ds, r = (.lst ds, true) ∧ PostF K Ω ι ow H ds env' st' σ v H' := by
  obtain ⟨d, b⟩ := r
  cases b
  · exact .inl ⟨by cases d <;> rfl, by cases d <;> exact p⟩
  · cases d <;> first | exact .inl ⟨rfl, p⟩ | exact .inr ⟨_, rfl, p⟩
theorem rs_of {C : CallF} : ∀ (es : List E) {α : Type} {f : List R → M α} {Qf : α → EnvI → Sto → Prop} {Q : List V → Hp → Prop} {Ω : Addr → Prop} {ι : List Addr} {ow : Nat → Option Addr} {env : EnvI} {st : Sto} {H : Hp},
    Rel K Ω ι ow env st σ H → Run K ex W Ω ι ow σ H (M.bind (evalRs C es) f env st) Qf →
    (∀ rs env1 st1 vs H1 ι1 ow1 ps, Fr ι ow H ι1 ow1 H1 → Tr (Prot Ω ι ow) (Prot (addl Ω ps) ι1 ow1) ι ι1 H H1 → (∀ p ∈ ps, ¬ Ω p ∧ H p = none) → Rel K (addl Ω ps) ι1 ow1 env1 st1 σ H1 → RRs K (Prot (addl Ω ps) ι1 ow1) ι1 H1 ps vs rs →
      Run K ex W (addl Ω ps) ι1 ow1 σ H1 (f rs env1 st1) Qf → Q vs H1) → tEs K ex C W es σ H Q := by
  intro es
  induction es with
  | nil =>
    intro α f Qf Q Ω ι ow env st H R h hq
    have e0 : ∀ a, addl Ω [] a → Ω a := fun a z => by
      rcases z with z | z
      · exact z
      · cases z
    refine hq [] env st [] H ι ow [] .refl (.less fun a z => ?_) (fun p z => by cases z) (R.less e0) .nil (Run.wk (fun a z => .inl z) .refl h)
    rcases z with z | z
    · exact .inl (e0 a z)
    · exact .inr z
  | cons e es ih =>
    intro α f Qf Q Ω ι ow env st H R h hq
    have h : Run K ex W Ω ι ow σ H (M.bind (M.bind (evalE C e) fun r => M.bind (evalRs C es) fun rs => M.ret (r :: rs)) f env st) Qf := h
    rw [M.assoc] at h
    refine TEm.of R h fun r env1 st1 v H1 p h1 => ?_
    rcases PostR.cases p with ⟨hs, ι1, ow1, f1, R1, rv⟩ | ⟨ds, rfl, ι1, ow1, q, xs, f1, rfl, nq, hq0, hq1, R1, rv⟩
    · have h2 := Run.shift f1 h1
      rw [M.assoc] at h2
      refine ih R1 h2 fun rs env2 st2 vs H2 ι2 ow2 ps f2 t2 hps R2 rr h3 => ?_
      refine hq (r :: rs) env2 st2 (v :: vs) H2 ι2 ow2 ps (f1.trans f2) (f1.tr.trans t2) (fun p hp => ⟨(hps p hp).1, ?_⟩) R2 (.val hs (rv.tr t2) rr) h3
      cases e : H p with
      | none => rfl
      | some o =>
        obtain ⟨o', e'⟩ := f1.dom p o e
        rw [(hps p hp).2] at e'; cases e'
    · have h2 := Run.wk (Ω' := addp Ω q) (fun a z => .inl z) f1 h1
      rw [M.assoc] at h2
      refine ih R1 h2 fun rs env2 st2 vs H2 ι2 ow2 ps f2 t2 hps R2 rr h3 => ?_
      have eq1 : ∀ a, addl Ω (q :: ps) a → addl (addp Ω q) ps a := fun a z => by
        rcases z with z | z
        · exact .inl (.inl z)
        · rcases List.mem_cons.mp z with z | z
          · exact .inl (.inr z)
          · exact .inr z
      have eq2 : ∀ a, addl (addp Ω q) ps a → addl Ω (q :: ps) a := fun a z => by
        rcases z with (z | z) | z
        · exact .inl z
        · exact .inr (by rw [z]; exact List.mem_cons_self)
        · exact .inr (List.mem_cons_of_mem _ z)
      have pr1 : ∀ a, Prot (addl Ω (q :: ps)) ι2 ow2 a → Prot (addl (addp Ω q) ps) ι2 ow2 a := fun a z => by
        rcases z with z | z
        · exact .inl (eq1 a z)
        · exact .inr z
      have q2 : H2 q = some (.lst xs) := f2.keep q _ hq1 (R1.disj q (.inr rfl)).1 (R1.disj q (.inr rfl)).2
      have t1 : Tr (Prot Ω ι ow) (Prot (addp Ω q) ι1 ow1) ι ι1 H H1 := f1.trp hq0
      refine hq ((.lst ds, true) :: rs) env2 st2 (.ref q :: vs) H2 ι2 ow2 (q :: ps) (f1.trans f2) ((t1.trans t2).trans (.less pr1)) (fun p hp => ?_) (R2.less eq1) (.own q2 ((rv.tr t2).tr (.less pr1)) (fun z => (hps q z).1 (.inr rfl)) (rr.less pr1)) (Run.wk eq2 .refl h3)
      rcases List.mem_cons.mp hp with z | z
      · rw [z]; exact ⟨nq, hq0⟩
      · refine ⟨fun u => (hps p z).1 (.inl u), ?_⟩
        cases e : H p with
        | none => rfl
        | some o =>
          obtain ⟨o', e'⟩ := f1.dom p o e
          rw [(hps p z).2] at e'; cases e'
/-- the slots' new values -/
def setsV : List Nat → List V → L2.St → L2.St
  | i :: is, v :: vs, σ => setsV is vs (σ.set i (some v))
  | _, _, σ => σ
theorem sets_of : ∀ (is : List Nat) {rs : List R} {vs : List V} {ps : List Addr} {ow : Nat → Option Addr} {env env' : EnvI} {σ : L2.St}, Rel K (addl Ω ps) ι ow env st σ H → RRs K (Prot (addl Ω ps) ι ow) ι H ps vs rs → (∀ p ∈ ps, ¬ Ω p) → setSlotsR is rs env = some env' →
    ∃ ow', Rel K Ω ι ow' env' st (setsV is vs σ) H ∧ ∀ i a, ow' i = some a → ow i = some a ∨ a ∈ ps := by
  intro is
  induction is with
  | nil =>
    intro rs vs ps ow env env' σ R rr hp h
    cases rs with
    | cons _ _ => cases h
    | nil =>
      cases h
      cases rr
      exact ⟨ow, R.less fun a z => .inl z, fun i a z => .inl z⟩
  | cons i is ih =>
    intro rs vs ps ow env env' σ R rr hp h
    cases rs with
    | nil => cases h
    | cons r rs =>
      have h : (if i < env.length then setSlotsR is rs (env.set i (slotOf r)) else none) = some env' := h
      by_cases hi : i < env.length
      · rw [if_pos hi] at h
        cases rr with
        | val hs rv t =>
          rw [hs] at h
          obtain ⟨ow', R2, h2⟩ := ih (R.setVal hi rv) (t.less fun a z => prot_dropo z) hp h
          exact ⟨ow', R2, fun j a z => (h2 j a z).imp (fun u => (dropo_some u).2) id⟩
        | @own p xs ds ps vs rs hH rv n t =>
          have np : ¬ addl Ω ps p := fun z => by
            rcases z with z | z
            · exact hp p List.mem_cons_self z
            · exact n z
          have e1 : ∀ a, addp (addl Ω ps) p a → addl Ω (p :: ps) a := fun a z => by
            rcases z with (z | z) | z
            · exact .inl z
            · exact .inr (List.mem_cons_of_mem _ z)
            · exact .inr (by rw [z]; exact List.mem_cons_self)
          have e2 : ∀ a, addl Ω ps a → addl Ω (p :: ps) a := fun a z => by
            rcases z with z | z
            · exact .inl z
            · exact .inr (List.mem_cons_of_mem _ z)
          have R1 := R.less e1
          have R2 := R1.setNew hi np hH (rv.tr (.less fun a z => by
            rcases z with z | z
            · exact .inl (e1 a z)
            · exact .inr z))
          obtain ⟨ow', R3, h3⟩ := ih R2 (t.less fun a z => by
            rcases z with z | z | ⟨j, z⟩
            · exact .inl (e2 a z)
            · exact .inr (.inl z)
            · rcases seto_some z with ⟨_, z⟩ | ⟨_, z⟩
              · exact .inl (.inr (by rw [z]; exact List.mem_cons_self))
              · exact .inr (.inr ⟨j, z⟩)) (fun q hq => hp q (List.mem_cons_of_mem _ hq)) h
          refine ⟨ow', R3, fun j a z => ?_⟩
          rcases h3 j a z with u | u
          · rcases seto_some u with ⟨_, u⟩ | ⟨_, u⟩
            · exact .inr (by rw [u]; exact List.mem_cons_self)
            · exact .inl u
          · exact .inr (List.mem_cons_of_mem _ u)
      · rw [if_neg hi] at h; cases h
end
theorem tEs_mono {C : CallF} : ∀ (es : List E) {σ : L2.St} {H : Hp} {Q Q' : List V → Hp → Prop}, tEs X.K ex C W es σ H Q → (∀ vs H, Q vs H → Q' vs H) → tEs X.K ex C W es σ H Q'
  | [], _, _, _, _, h, hq => hq _ _ h
  | e :: es, σ, H, Q, Q', h, hq => TEm.mono (show TEm X.K ex W (evalE C e) σ H fun x H1 => tEs X.K ex C W es σ H1 fun xs H2 => Q (x :: xs) H2 from h) fun v H1 z => tEs_mono es z fun vs H2 => hq (v :: vs) H2
theorem par_rd {is : List Nat} {es : List E} {D : Ends} {σ : L2.St} {H : Hp} (h : TSm X.K ex W (evalS C sub N (.par is es)) D σ H) : tEs X.K ex C W es σ H fun vs H1 => vs.length = is.length ∧ D.nx (setsV is vs σ) H1 := by
  obtain ⟨Ω, ι, ow, env, st, Rl, h⟩ := h
  have h : RunS X.K ex W Ω ι ow H D (M.bind (evalRs C es) (fun rs env st => match setSlotsR is rs env with | some env' => .ok .nx env' st | none => .stuck) env st) := h
  have hd : Run X.K ex W Ω ι ow σ H (M.bind (evalRs C es) (fun rs env st => match setSlotsR is rs env with | some env' => .ok () env' st | none => .stuck) env st) (fun _ env' st' => ∀ σ' H', PostN X.K Ω ι ow H env' st' σ' H' → D.nx σ' H') := by
    have h5 := h.bind σ
    cases e : evalRs C es env st with
    | err x e' s => rw [M.bind_err e]; rw [e] at h5; exact h5
    | stuck => rw [M.bind_stuck e]; rw [e] at h5; exact h5
    | ok ds e' s =>
      rw [M.bind_ok e]
      rw [e] at h5
      have h6 : RunS X.K ex W Ω ι ow H D (match setSlotsR is ds e' with | some env' => .ok .nx env' s | none => .stuck) := h5
      show Run X.K ex W Ω ι ow σ H (match setSlotsR is ds e' with | some env' => .ok () env' s | none => .stuck) _
      cases q : setSlotsR is ds e' with
      | none => rw [q] at h6; exact h6
      | some env' => rw [q] at h6; exact h6
  refine rs_of es Rl hd fun rs env1 st1 vs H1 ι1 ow1 ps f1 t1 hps R1 rr h1 => ?_
  have h1 : Run X.K ex W (addl Ω ps) ι1 ow1 σ H1 (match setSlotsR is rs env1 with | some env' => .ok () env' st1 | none => .stuck) _ := h1
  cases q : setSlotsR is rs env1 with
  | none => rw [q] at h1; exact h1.elim
  | some env' =>
    rw [q] at h1
    have h1 : ∀ σ' H', PostN X.K Ω ι ow H env' st1 σ' H' → D.nx σ' H' := h1
    obtain ⟨ow', R2, h2⟩ := sets_of is R1 rr (fun p hp => (hps p hp).1) q
    have hl : ∀ (is : List Nat) (rs : List R) (env env' : EnvI), setSlotsR is rs env = some env' → rs.length = is.length := by
      intro is
      induction is with
      | nil => intro rs env env' h; cases rs <;> first | rfl | cases h
      | cons i is ih =>
        intro rs env env' h
        cases rs with
        | nil => cases h
        | cons r rs =>
          have h : (if i < env.length then setSlotsR is rs (env.set i (slotOf r)) else none) = some env' := h
          split at h
          · exact congrArg (· + 1) (ih _ _ _ h)
          · cases h
    refine ⟨rr.length.trans (hl _ _ _ _ q), h1 _ _ ⟨ι1, ow', ⟨f1.pre, f1.keep, f1.dom, fun a o e z => ?_⟩, R2⟩⟩
    rcases z with z | ⟨j, z⟩
    · exact f1.new a o e (.inl z)
    · rcases h2 j a z with u | u
      · exact f1.new a o e (.inr ⟨j, u⟩)
      · rw [(hps a u).2] at e; cases e
theorem any2 {α : Type} {f : α → Bool} {a b : α} (h : f a = false) (k : f b = false) : [a, b].any f = false := by
  rw [List.any_cons, List.any_cons, h, k]; rfl
theorem fm2 {α β : Type} {f : α → Option β} {a b : α} {x y : β} (h : f a = some x) (k : f b = some y) : [a, b].filterMap f = [x, y] := by
  simp [h, k]
theorem swapped_of {cn : Cn} {x y : Str} {px py pt : Pos} {a b : Expr} {kt k2 : Nat} {pt2 : Pos} {env : Env} (hn : env.scope.names = cn.nm) (hk : env.scope.kind = .function) (ha : ∀ c p, a ≠ .Starred c p) (hb : ∀ c p, b ≠ .Starred c p) (h : parC cn px py x y a b = true) :
    swappedStores [.Tuple [.Name x px, .Name y py] kt pt] (.Tuple [a, b] k2 pt2) env = pure (some [x, y]) ∧ cn.nm.lookup x = some .local ∧ cn.nm.lookup y = some .local ∧ x ≠ y := by
  unfold parC at h
  simp only [Bool.and_eq_true, Bool.not_eq_true'] at h
  obtain ⟨⟨⟨⟨⟨h1, h2⟩, h3⟩, h4⟩, h5⟩, h6⟩ := h
  have e1 := locT_ok h1
  have e2 := locT_ok h2
  have e3 : x ≠ y := fun z => by
    rw [z] at h3
    simp at h3
  have hbk : env.blockKind = .function := by
    unfold Env.blockKind
    rw [hk]
    rfl
  have k1 : env.kindOf x = some .local := by unfold Env.kindOf; rw [hn]; exact e1
  have k2' : env.kindOf y = some .local := by unfold Env.kindOf; rw [hn]; exact e2
  refine ⟨?_, e1, e2, e3⟩
  have hl : (py.line == px.line) = true := by
    have := of_decide_eq_true (show decide (px.line = py.line) = true from by simpa using h4)
    simp [this]
  have hdup : ([x, y].eraseDups : List Str).length = 2 := by
    have : (y == x) = false := by simpa using fun z : y = x => e3 z.symm
    simp [List.eraseDups, List.eraseDupsBy, List.eraseDupsBy.loop, this]
  unfold swappedStores
  dsimp only
  rw [hbk, any2 (by cases a <;> first | rfl | exact absurd rfl (ha _ _)) (by cases b <;> first | rfl | exact absurd rfl (hb _ _)), h5, h6, fm2 (x := x) (y := y) (by simp [k1]; rfl) (by simp [k2']; exact of_decide_eq_true (show decide (py.line = px.line) = true from by simpa using hl)), hdup]
  rfl
theorem any3 {α : Type} {f : α → Bool} {a b d : α} (h : f a = false) (k : f b = false) (l : f d = false) : [a, b, d].any f = false := by
  rw [List.any_cons, h, any2 k l]; rfl
theorem fm3 {α β : Type} {f : α → Option β} {a b d : α} {x y z : β} (h : f a = some x) (k : f b = some y) (l : f d = some z) : [a, b, d].filterMap f = [x, y, z] := by
  simp [h, k, l]
theorem dups3 {x y z : Str} (h : x ≠ y) (h2 : x ≠ z) (h3 : y ≠ z) : ([x, y, z].eraseDups : List Str).length = 3 := by
  have e1 : (y == x) = false := by simpa using fun q : y = x => h q.symm
  have e2 : (z == x) = false := by simpa using fun q : z = x => h2 q.symm
  have e3 : (z == y) = false := by simpa using fun q : z = y => h3 q.symm
  simp [List.eraseDups, List.eraseDupsBy, List.eraseDupsBy.loop, e1, e2, e3]
theorem swapped_of3 {cn : Cn} {x y z : Str} {px py pz pt : Pos} {a b d : Expr} {kt k2 : Nat} {pt2 : Pos} {env : Env} (hn : env.scope.names = cn.nm) (hk : env.scope.kind = .function) (ha : ∀ c p, a ≠ .Starred c p) (hb : ∀ c p, b ≠ .Starred c p) (hd : ∀ c p, d ≠ .Starred c p) (h : parC3 cn px py pz x y z a b d = true) :
    swappedStores [.Tuple [.Name x px, .Name y py, .Name z pz] kt pt] (.Tuple [a, b, d] k2 pt2) env = pure (some [x, y, z]) ∧ cn.nm.lookup x = some .local ∧ cn.nm.lookup y = some .local ∧ cn.nm.lookup z = some .local ∧ x ≠ y ∧ x ≠ z ∧ y ≠ z := by
  unfold parC3 at h
  simp only [Bool.and_eq_true, Bool.not_eq_true'] at h
  obtain ⟨⟨⟨⟨⟨⟨⟨⟨⟨h1, h2⟩, h3⟩, g1⟩, g2⟩, g3⟩, g4⟩, g5⟩, h5⟩, h6⟩ := h
  have e1 := locT_ok h1
  have e2 := locT_ok h2
  have e3 := locT_ok h3
  have n1 : x ≠ y := fun q => by rw [q] at g1; simp at g1
  have n2 : x ≠ z := fun q => by rw [q] at g2; simp at g2
  have n3 : y ≠ z := fun q => by rw [q] at g3; simp at g3
  have hbk : env.blockKind = .function := by
    unfold Env.blockKind
    rw [hk]
    rfl
  have k1 : env.kindOf x = some .local := by unfold Env.kindOf; rw [hn]; exact e1
  have k2' : env.kindOf y = some .local := by unfold Env.kindOf; rw [hn]; exact e2
  have k3 : env.kindOf z = some .local := by unfold Env.kindOf; rw [hn]; exact e3
  refine ⟨?_, e1, e2, e3, n1, n2, n3⟩
  have l1 : px.line = py.line := by simpa using g4
  have l2 : px.line = pz.line := by simpa using g5
  unfold swappedStores
  dsimp only
  rw [hbk, any3 (by cases a <;> first | rfl | exact absurd rfl (ha _ _)) (by cases b <;> first | rfl | exact absurd rfl (hb _ _)) (by cases d <;> first | rfl | exact absurd rfl (hd _ _)), h5, h6, fm3 (x := x) (y := y) (z := z) (by simp [k1]; rfl) (by simp [k2']; exact l1.symm) (by simp [k3]; exact l2.symm), dups3 n1 n2 n3]
  rfl
theorem js_par (c : Ctx g ex C cn X) {x y : Str} {px py pt pt2 pos : Pos} {kt k2 : Nat} {a b : Expr} {i j : Nat} {u v : E} (hp : parC cn px py x y a b = true) (hx : wrIx cn x = some i) (hy : wrIx cn y = some j) (ha : ∀ c p, a ≠ .Starred c p) (hb : ∀ c p, b ≠ .Starred c p)
    (pa : PE X a (TEm X.K ex W (evalE C u))) (pb : PE X b (TEm X.K ex W (evalE C v))) : JS X ex C sub N W (.Assign [.Tuple [.Name x px, .Name y py] kt pt] (.Tuple [a, b] k2 pt2) pos) (.par [i, j] [u, v]) := by
  obtain ⟨s1, s2, s3, s4⟩ := swapped_of (pt := pt) (kt := kt) (k2 := k2) (pt2 := pt2) c.names c.kind ha hb hp
  obtain ⟨h1, _, _⟩ := c.write hx
  obtain ⟨h2, _, _⟩ := c.write hy
  have hij : i ≠ j := fun z => by
    rw [z, h2] at h1
    exact s4 (Option.some.inj h1).symm
  refine (ps_par (ta := tEs X.K ex C W [u, v]) c.calm c.nd h1 h2 hij (by rw [c.names]; exact s2) (by rw [c.names]; exact s3) (pa_cons pa (pa_cons pb pa_nil (star_plain hb [] X.env)) (star_plain ha [b] X.env)) s1).imp fun D σ H h => ?_
  have key := par_rd h
  exact tEs_mono _ key fun vs H1 q => by
    match vs, q with
    | [v1, v2], ⟨_, q⟩ => exact ⟨v1, v2, rfl, q⟩
theorem RRs.grow {K : PySem.W.Frag} {P : Addr → Prop} {ι : List Addr} {H H' : Hp} (h : ∀ a o, H a = some o → H' a = some o) : ∀ {ps : List Addr} {vs : List V} {rs : List R}, RRs K P ι H ps vs rs → RRs K P ι H' ps vs rs
  | _, _, _, .nil => .nil
  | _, _, _, .val e r t => .val e (r.tr (Tr.grow h fun _ _ _ z => z)) (RRs.grow h t)
  | _, _, _, .own e r n t => .own (h _ _ e) (r.tr (Tr.grow h fun _ _ _ z => z)) n (RRs.grow h t)
/-- .. by way of a tuple -/
theorem parT_rd {is : List Nat} {es : List E} {D : Ends} {σ : L2.St} {H : Hp} (h : TSm X.K ex W (evalS C sub N (.par is es)) D σ H) : tEs X.K ex C W es σ H fun vs H1 => vs.length = is.length ∧ ∀ T, H1 T = none → D.nx (setsV is vs σ) (upd H1 T (.tup vs)) := by
  obtain ⟨Ω, ι, ow, env, st, Rl, h⟩ := h
  have h : RunS X.K ex W Ω ι ow H D (M.bind (evalRs C es) (fun rs env st => match setSlotsR is rs env with | some env' => .ok .nx env' st | none => .stuck) env st) := h
  have hd : Run X.K ex W Ω ι ow σ H (M.bind (evalRs C es) (fun rs env st => match setSlotsR is rs env with | some env' => .ok () env' st | none => .stuck) env st) (fun _ env' st' => ∀ σ' H', PostN X.K Ω ι ow H env' st' σ' H' → D.nx σ' H') := by
    have h5 := h.bind σ
    cases e : evalRs C es env st with
    | err x e' s => rw [M.bind_err e]; rw [e] at h5; exact h5
    | stuck => rw [M.bind_stuck e]; rw [e] at h5; exact h5
    | ok ds e' s =>
      rw [M.bind_ok e]
      rw [e] at h5
      have h6 : RunS X.K ex W Ω ι ow H D (match setSlotsR is ds e' with | some env' => .ok .nx env' s | none => .stuck) := h5
      show Run X.K ex W Ω ι ow σ H (match setSlotsR is ds e' with | some env' => .ok () env' s | none => .stuck) _
      cases q : setSlotsR is ds e' with
      | none => rw [q] at h6; exact h6
      | some env' => rw [q] at h6; exact h6
  refine rs_of es Rl hd fun rs env1 st1 vs H1 ι1 ow1 ps f1 t1 hps R1 rr h1 => ?_
  have h1 : Run X.K ex W (addl Ω ps) ι1 ow1 σ H1 (match setSlotsR is rs env1 with | some env' => .ok () env' st1 | none => .stuck) _ := h1
  cases q : setSlotsR is rs env1 with
  | none => rw [q] at h1; exact h1.elim
  | some env' =>
    rw [q] at h1
    have h1 : ∀ σ' H', PostN X.K Ω ι ow H env' st1 σ' H' → D.nx σ' H' := h1
    have hl : ∀ (is : List Nat) (rs : List R) (env env' : EnvI), setSlotsR is rs env = some env' → rs.length = is.length := by
      intro is
      induction is with
      | nil => intro rs env env' h; cases rs <;> first | rfl | cases h
      | cons i is ih =>
        intro rs env env' h
        cases rs with
        | nil => cases h
        | cons r rs =>
          have h : (if i < env.length then setSlotsR is rs (env.set i (slotOf r)) else none) = some env' := h
          split at h
          · exact congrArg (· + 1) (ih _ _ _ h)
          · cases h
    refine ⟨rr.length.trans (hl _ _ _ _ q), fun T hT => ?_⟩
    have R2 := R1.new (o := .tup vs) hT
    have rr2 := rr.grow (upd_keep (o := .tup vs) hT)
    have f2 : Fr ι ow H ι1 ow1 (upd H1 T (.tup vs)) := f1.trans (Fr.grow (upd_keep hT))
    obtain ⟨ow', R3, h3⟩ := sets_of is R2 rr2 (fun p hp => (hps p hp).1) q
    refine h1 _ _ ⟨ι1, ow', ⟨f2.pre, f2.keep, f2.dom, fun a o e z => ?_⟩, R3⟩
    rcases z with z | ⟨j, z⟩
    · exact f2.new a o e (.inl z)
    · rcases h3 j a z with u | u
      · exact f2.new a o e (.inr ⟨j, u⟩)
      · rw [(hps a u).2] at e; cases e
theorem swap_cell {x y : Str} {px py pt pt2 : Pos} {a b : Expr} {kt k2 : Nat} {env : Env} (h : env.kindOf x = some .cell ∨ env.kindOf y = some .cell) : swappedStores [.Tuple [.Name x px, .Name y py] kt pt] (.Tuple [a, b] k2 pt2) env = pure none := by
  unfold swappedStores
  dsimp only
  split
  · rfl
  · split
    · rfl
    · have hl : ∀ (l : Nat), (([Expr.Name x px, Expr.Name y py].filterMap fun e => match e with
          | .Name id pos => if env.kindOf id == some .local && pos.line == l then some id else none
          | _ => none).length != 2) = true := fun l => by
        rcases h with h | h
        · rw [List.filterMap_cons, List.filterMap_cons]
          dsimp only
          rw [h, show ((some NameKind.cell : Option NameKind) == some .local) = false from by decide]
          cases (env.kindOf y == some NameKind.local && py.line == l) <;> rfl
        · rw [List.filterMap_cons, List.filterMap_cons]
          dsimp only
          rw [h, show ((some NameKind.cell : Option NameKind) == some .local) = false from by decide]
          cases (env.kindOf x == some NameKind.local && px.line == l) <;> rfl
      have := hl ((([Expr.Name x px, Expr.Name y py].head?.map (·.pos.line))).getD 0)
      refine if_pos ?_
      rw [Bool.or_eq_true]
      exact .inl this
theorem js_parT (c : Ctx g ex C cn X) {x y : Str} {px py pt pt2 pos : Pos} {kt k2 : Nat} {a b : Expr} {i j : Nat} {u v : E} (hp : parT cn x y = true) (hx : wrIx cn x = some i) (hy : wrIx cn y = some j) (ha : ∀ c p, a ≠ .Starred c p) (hb : ∀ c p, b ≠ .Starred c p)
    (pa : PE X a (TEm X.K ex W (evalE C u))) (pb : PE X b (TEm X.K ex W (evalE C v))) : JS X ex C sub N W (.Assign [.Tuple [.Name x px, .Name y py] kt pt] (.Tuple [a, b] k2 pt2) pos) (.par [i, j] [u, v]) := by
  have hk : X.env.kindOf x = some .cell ∨ X.env.kindOf y = some .cell := by
    unfold parT at hp
    rw [Bool.or_eq_true] at hp
    unfold Env.kindOf
    rw [c.names]
    exact hp.imp (fun h => by simpa using h) (fun h => by simpa using h)
  obtain ⟨h1, h2, h3⟩ := c.write hx
  obtain ⟨g1, g2, g3⟩ := c.write hy
  refine (ps_asg (pe_tup (t := tEs X.K ex C W [u, v]) (pa_cons pa (pa_cons pb pa_nil (star_plain hb [] X.env)) (star_plain ha [b] X.env))) (pg_tup c.calm (pgs_cons (pg_name c.nd h1 h2 h3) (pgs_cons (pg_name c.nd g1 g2 g3) pgs_nil)) rfl rfl) rfl (swap_cell hk) rfl).imp fun D σ H h => ?_
  exact tEs_mono _ (parT_rd h) fun vs H1 q => by
    match vs, q with
    | [v1, v2], ⟨_, q⟩ => exact ⟨by show 2 ≤ sizeLine; rw [sizeLine_eq]; decide, fun T hT => ⟨T, _, rfl, .of upd_same, rfl, v1, _, rfl, v2, _, rfl, rfl, q T hT⟩⟩
theorem js_par3 (c : Ctx g ex C cn X) {x y z : Str} {px py pz pt pt2 pos : Pos} {kt k2 : Nat} {a b d : Expr} {i j l : Nat} {u v w : E} (hp : parC3 cn px py pz x y z a b d = true) (hx : wrIx cn x = some i) (hy : wrIx cn y = some j) (hz : wrIx cn z = some l) (ha : ∀ c p, a ≠ .Starred c p) (hb : ∀ c p, b ≠ .Starred c p) (hd : ∀ c p, d ≠ .Starred c p)
    (pa : PE X a (TEm X.K ex W (evalE C u))) (pb : PE X b (TEm X.K ex W (evalE C v))) (pd : PE X d (TEm X.K ex W (evalE C w))) : JS X ex C sub N W (.Assign [.Tuple [.Name x px, .Name y py, .Name z pz] kt pt] (.Tuple [a, b, d] k2 pt2) pos) (.par [i, j, l] [u, v, w]) := by
  obtain ⟨s1, s2, s3, s4, n1, n2, n3⟩ := swapped_of3 (pt := pt) (kt := kt) (k2 := k2) (pt2 := pt2) c.names c.kind ha hb hd hp
  obtain ⟨h1, _, _⟩ := c.write hx
  obtain ⟨h2, _, _⟩ := c.write hy
  obtain ⟨h3, _, _⟩ := c.write hz
  have hij : i ≠ j := fun q => by rw [q, h2] at h1; exact n1 (Option.some.inj h1).symm
  have hil : i ≠ l := fun q => by rw [q, h3] at h1; exact n2 (Option.some.inj h1).symm
  have hjl : j ≠ l := fun q => by rw [q, h3] at h2; exact n3 (Option.some.inj h2).symm
  refine (ps_par3 (ta := tEs X.K ex C W [u, v, w]) c.calm c.nd h1 h2 h3 hij hil hjl (by rw [c.names]; exact s2) (by rw [c.names]; exact s3) (by rw [c.names]; exact s4) (pa_cons pa (pa_cons pb (pa_cons pd pa_nil (star_plain hd [] X.env)) (star_plain hb [d] X.env)) (star_plain ha [b, d] X.env)) s1).imp fun D σ H h => ?_
  have key := par_rd h
  exact tEs_mono _ key fun vs H1 q => by
    match vs, q with
    | [v1, v2, v3], ⟨_, q⟩ => exact ⟨v1, v2, v3, rfl, q⟩
end
end IP

set_option Elab.async false
set_option linter.all false
set_option maxRecDepth 100000
set_option maxHeartbeats 4000000
namespace IP
open PySem PySem.Spec PyProof.Rows L2
section
variable {g : G} {ex : Nat → Addr × Str} {C : CallF} {sub : Nat → Nat → Option Bool} {N : Nat} {cn : Cn} {X : Cx} {W : WX}
/-! ### x.append(e), x.extend(e) -/
theorem js_app (c : Ctx g ex C cn X) {x : Str} {i : Nat} {e : Expr} {j : E} {p0 apos cpos pos : Pos} (hx : rdIx cn x = some i) (hl : (apos.endLine == cpos.line) = true) (hs : ∀ b q, e ≠ .Starred b q) (he : JE X ex C W e j) :
    JS X ex C sub N W (.Expr (.Call (.Attribute (.Name x p0) "append" apos) [e] [] cpos) pos) (.app i j) := by
  obtain ⟨h1, h2, h3⟩ := c.read hx
  refine (ps_expr (pe_bm PySem.F.plainAttrs_list PySem.F.slot_list_append PySem.F.type_list_append mt_append (pe_var h1 h2 (plain_names h3).1 (plain_names h3).2.1) (pa_cons he.pe pa_nil (star_plain hs [] X.env)) rfl (by rw [star_plain hs [] X.env]; rfl) hl (star_plain hs [] X.env) rfl) rfl).imp fun D σ H ⟨Ω, ι, ow, env, st, R, h⟩ => ?_
  have h : RunS X.K ex W Ω ι ow H D (match env[i]? with
    | some (.own _) => M.bind (evalE C j) (fun r env st => match env[i]? with
      | some (.own ds) => if ds.length < 16777216 then .ok .nx (env.set i (.own (ds ++ [r.1]))) st else .stuck
      | _ => .stuck) env st
    | _ => .stuck) := h
  split at h
  · rename_i ds0 e0
    obtain ⟨a, xs, q1, q2, q3, q4⟩ := R.owns i ds0 e0
    refine ⟨.ref a, q2, .inl ⟨rfl, _, .of q3⟩, ?_⟩
    refine TEm.ofS R h fun r env1 st1 v H1 p h1 => ?_
    obtain ⟨ι1, ow1, f1, R1, rv⟩ := p.weak
    have h1 : RunS X.K ex W Ω ι ow H D (match env1[i]? with
      | some (.own ds) => if ds.length < 16777216 then .ok .nx (env1.set i (.own (ds ++ [r.1]))) st1 else .stuck
      | _ => .stuck) := h1
    split at h1
    · rename_i ds e1
      split at h1
      · rename_i hz
        obtain ⟨b, ys, z1, z2, z3, z4⟩ := R1.owns i ds e1
        rw [q2] at z2
        cases z2
        obtain ⟨R', f'⟩ := R1.setOwn e1 z1 (z4.append (.cons rv .nil))
        exact ⟨a, ys, v, rfl, rfl, z3, (by rw [z4.length]; exact hz), h1 σ _ ⟨ι1, ow1, f1.trans f', R'⟩⟩
      · exact h1.elim
    · exact h1.elim
  · exact h.elim
theorem js_ext (c : Ctx g ex C cn X) {x : Str} {i : Nat} {e : Expr} {j : E} {p0 apos cpos pos : Pos} (hx : rdIx cn x = some i) (hl : (apos.endLine == cpos.line) = true) (hs : ∀ b q, e ≠ .Starred b q) (he : JE X ex C W e j) :
    JS X ex C sub N W (.Expr (.Call (.Attribute (.Name x p0) "extend" apos) [e] [] cpos) pos) (.ext i j) := by
  obtain ⟨h1, h2, h3⟩ := c.read hx
  refine (ps_expr (pe_bm PySem.F.plainAttrs_list PySem.F.slot_list_extend PySem.F.type_list_extend mt_extend (pe_var h1 h2 (plain_names h3).1 (plain_names h3).2.1) (pa_cons he.pe pa_nil (star_plain hs [] X.env)) rfl (by rw [star_plain hs [] X.env]; rfl) hl (star_plain hs [] X.env) rfl) rfl).imp fun D σ H ⟨Ω, ι, ow, env, st, R, h⟩ => ?_
  have h : RunS X.K ex W Ω ι ow H D (match env[i]? with
    | some (.own _) => M.bind (evalE C j) (fun r env st => match env[i]?, r.1 with
      | some (.own ds), .lst xs => if lineOk (ds.length + xs.length) then .ok .nx (env.set i (.own (ds ++ xs))) st else .stuck
      | _, _ => .stuck) env st
    | _ => .stuck) := h
  split at h
  · rename_i ds0 e0
    obtain ⟨a, xs, q1, q2, q3, q4⟩ := R.owns i ds0 e0
    refine ⟨.ref a, q2, .inl ⟨rfl, _, .of q3⟩, ?_⟩
    refine TEm.ofS R h fun r env1 st1 v H1 p h1 => ?_
    obtain ⟨ι1, ow1, f1, R1, rv⟩ := p.weak
    have h1 : RunS X.K ex W Ω ι ow H D (match env1[i]?, r.1 with
      | some (.own ds), .lst xs => if lineOk (ds.length + xs.length) then .ok .nx (env1.set i (.own (ds ++ xs))) st1 else .stuck
      | _, _ => .stuck) := h1
    split at h1
    · rename_i ds xs' e1 e2
      split at h1
      · rename_i hz
        rw [e2] at rv
        cases rv with
        | lst hH nP rr =>
          rename_i b2 zs
          obtain ⟨b, ys, z1, z2, z3, z4⟩ := R1.owns i ds e1
          rw [q2] at z2
          cases z2
          obtain ⟨R', f'⟩ := R1.setOwn e1 z1 (z4.append rr)
          exact ⟨a, b2, ys, zs, rfl, rfl, z3, hH, (by rw [z4.length, rr.length]; exact of_decide_eq_true hz), h1 σ _ ⟨ι1, ow1, f1.trans f', R'⟩⟩
      · exact h1.elim
    · exact h1.elim
  · exact h.elim
/-! ### x[k] = e -/
/-- a list's item is stored: what follows goes on -/
theorem ix_rdM {K : PySem.W.Frag} {Ω : Addr → Prop} {ι : List Addr} {ow : Nat → Option Addr} {env : EnvI} {st : Sto} {σ : L2.St} {H : Hp} {D : Ends} {i : Nat} {m : Fl → M Fl} {d j : IP.D} {v w u : V} {Q : Hp → Prop} (R : Rel K Ω ι ow env st σ H) (hu : σ[i]? = some (some u)) (rj : RV K (Prot Ω ι ow) ι H w j) (rv : RV K (Prot Ω ι ow) ι H v d)
    (h : RunS K ex W Ω ι ow H D (M.bind (setIxM i d j) m env st))
    (hq : ∀ H' env' st' ι' ow', Fr ι ow H ι' ow' H' → Rel K Ω ι' ow' env' st' σ H' → RunS K ex W Ω ι' ow' H' D (m .nx env' st') → Q H') : rSetL u w v H Q := by
  have h0 : ∀ {r : Res Fl}, setIxM i d j env st = r → (∃ e s, r = .ok .nx e s) ∨ r = .stuck := by
    intro r hr
    subst hr
    unfold setIxM
    split
    · split
      · exact .inl ⟨_, _, rfl⟩
      · exact .inr rfl
    · split
      · split
        · exact .inl ⟨_, _, rfl⟩
        · exact .inr rfl
      · exact .inr rfl
    · exact .inr rfl
  rcases h0 rfl with ⟨e', s', hr⟩ | hr
  · rw [M.bind_ok hr] at h
    unfold setIxM at hr
    split at hr
    · rename_i ds m0 e1
      cases rj
      split at hr
      · rename_i n e3
        cases hr
        obtain ⟨b, ys, z1, z2, z3, z4⟩ := R.owns i ds e1
        rw [hu] at z2
        cases z2
        obtain ⟨R', f'⟩ := R.setOwn e1 z1 (RVs.set rv n z4)
        exact ⟨b, ys, _, n, rfl, rfl, z3, (by rw [z4.length]; exact e3), hq _ _ _ _ _ f' R' (RunS.shift f' h)⟩
      · cases hr
    · rename_i b m0 e1
      cases rj
      split at hr
      · rename_i ds e4
        split at hr
        · rename_i n e3
          cases hr
          obtain ⟨u2, z0, zr⟩ := R.vals i _ e1
          rw [hu] at z0
          cases z0
          cases zr with
          | ref hι =>
            have e5 := lstB_some e4
            obtain ⟨a', z1, z3⟩ := R.boxs b _ e5
            rw [hι] at z1
            cases z1
            cases z3 with
            | lst z3 z4 =>
              obtain ⟨R', f'⟩ := R.setBox (ho := .lst _) (bx := .lst (ds.set n d)) (List.getElem?_eq_some_iff.mp e5).1 hι fun t => .lst upd_same ((RVs.set rv n z4).tr t)
              exact ⟨_, _, _, n, rfl, rfl, z3, (by rw [z4.length]; exact e3), hq _ _ _ _ _ f' R' (RunS.shift f' h)⟩
        · cases hr
      · cases hr
    · cases hr
  · rw [M.bind_stuck hr] at h
    exact h.elim
theorem ix_rd {K : PySem.W.Frag} {Ω : Addr → Prop} {ι : List Addr} {ow : Nat → Option Addr} {env : EnvI} {st : Sto} {σ : L2.St} {H : Hp} {D : Ends} {i : Nat} {d j : IP.D} {v w u : V} {Q : Hp → Prop} (R : Rel K Ω ι ow env st σ H) (hu : σ[i]? = some (some u)) (rj : RV K (Prot Ω ι ow) ι H w j) (rv : RV K (Prot Ω ι ow) ι H v d)
    (h : RunS K ex W Ω ι ow H D (setIxM i d j env st)) (hq : ∀ H' (env' : EnvI) (st' : Sto), D.nx σ H' → Q H') : rSetL u w v H Q := by
  have e : setIxM i d j env st = M.bind (setIxM i d j) (fun f => M.ret f) env st := by
    unfold M.bind
    cases setIxM i d j env st <;> rfl
  rw [e] at h
  exact ix_rdM R hu rj rv h fun H' env' st' ι' ow' f R' h' => hq H' env' st' (h' σ H' (post0 R'))
theorem js_setIx (c : Ctx g ex C cn X) {x : Str} {i : Nat} {k e : Expr} {j a : E} {p0 p1 pos : Pos} (hx : rdIx cn x = some i) (hn : noComp e = true) (hs : notSlc k = true) (hk : JE X ex C W k j) (he : JE X ex C W e a) :
    JS X ex C sub N W (.Assign [.Subscript (.Name x p0) k p1] e pos) (.setIx i j a) := by
  obtain ⟨h1, h2, h3⟩ := c.read hx
  refine (ps_asg he.pe (pg_sub (pe_var h1 h2 (plain_names h3).1 (plain_names h3).2.1) hk.pe set_list (by intro v; cases k <;> first | rfl | cases hs)) (by cases e <;> first | rfl | cases hn) (by cases e <;> rfl) rfl).imp fun D σ H ⟨Ω, ι, ow, env, st, R, h⟩ => ?_
  have h : RunS X.K ex W Ω ι ow H D (M.bind (evalE C a) (fun v => M.bind (rdBor i) fun _ => M.bind (evalE C j) fun j => setIxM i v.1 j.1) env st) := h
  refine TEm.ofS R h fun r env1 st1 v H1 p h1 => ?_
  obtain ⟨ι1, ow1, f1, R1, rv⟩ := p.weak
  rcases rdBor_cases i env1 st1 with q | ⟨d0, q⟩
  · rw [M.bind_stuck q] at h1; exact h1.elim
  rw [M.bind_ok q] at h1
  obtain ⟨_, _, u, hu, _⟩ := R1.at_bor q
  refine ⟨u, hu, ?_⟩
  refine TEm.ofS R1 (RunS.shift f1 h1) fun r2 env2 st2 w H2 p2 h4 => ?_
  obtain ⟨ι2, ow2, f2, R2, rw2⟩ := p2.weak
  exact ix_rd R2 hu rw2 (rv.tr f2.tr) (RunS.shift f2 h4) fun H' env3 st3 p => p
/-! ### x[k], y[l] = a, b -/
theorem swap_sub {o1 o2 i1 i2 a b : Expr} {q1 q2 pt pt2 : Pos} {kt k2 : Nat} {env : Env} : swappedStores [.Tuple [.Subscript o1 i1 q1, .Subscript o2 i2 q2] kt pt] (.Tuple [a, b] k2 pt2) env = pure none := by
  unfold swappedStores
  dsimp only
  split
  · rfl
  · split
    · rfl
    · rfl
theorem js_parIx (c : Ctx g ex C cn X) {x y : Str} {i j : Nat} {ka kb a b : Expr} {k l u v : E} {px py q1 q2 pt pt2 pos : Pos} {kt k2 : Nat} (hx : rdIx cn x = some i) (hy : rdIx cn y = some j) (hs1 : notSlc ka = true) (hs2 : notSlc kb = true) (ha : ∀ c p, a ≠ .Starred c p) (hb : ∀ c p, b ≠ .Starred c p)
    (hk : JE X ex C W ka k) (hl : JE X ex C W kb l) (pa : JE X ex C W a u) (pb : JE X ex C W b v) :
    JS X ex C sub N W (.Assign [.Tuple [.Subscript (.Name x px) ka q1, .Subscript (.Name y py) kb q2] kt pt] (.Tuple [a, b] k2 pt2) pos) (.parIx i k j l u v) := by
  obtain ⟨h1, h2, h3⟩ := c.read hx
  obtain ⟨g1, g2, g3⟩ := c.read hy
  have t1 : PG X (.Subscript (.Name x px) ka q1) _ := pg_sub (pe_var h1 h2 (plain_names h3).1 (plain_names h3).2.1) hk.pe set_list (by intro v; cases ka <;> first | rfl | cases hs1)
  have t2 : PG X (.Subscript (.Name y py) kb q2) _ := pg_sub (pe_var g1 g2 (plain_names g3).1 (plain_names g3).2.1) hl.pe set_list (by intro v; cases kb <;> first | rfl | cases hs2)
  refine (ps_asg (pe_tup (pa_cons pa.pe (pa_cons pb.pe pa_nil (star_plain hb [] X.env)) (star_plain ha [b] X.env))) (pg_tup c.calm (pgs_cons t1 (pgs_cons t2 pgs_nil)) rfl rfl) rfl swap_sub rfl).imp fun D σ H ⟨Ω, ι, ow, env, st, R, h⟩ => ?_
  have h : RunS X.K ex W Ω ι ow H D (M.bind (evalE C u) (fun u => M.bind (evalE C v) fun v => M.bind (rdBor i) fun _ => M.bind (evalE C k) fun x => M.bind (setIxM i u.1 x.1) fun _ => M.bind (rdBor j) fun _ => M.bind (evalE C l) fun y => setIxM j v.1 y.1) env st) := h
  refine TEm.ofS R h fun r env1 st1 v1 H1 p h1 => ?_
  obtain ⟨ι1, ow1, f1, R1, rv1⟩ := p.weak
  refine TEm.ofS R1 (RunS.shift f1 h1) fun r2 env2 st2 v2 H2 p2 h2 => ?_
  obtain ⟨ι2, ow2, f2, R2, rv2⟩ := p2.weak
  refine ⟨by show 2 ≤ sizeLine; rw [sizeLine_eq]; decide, fun T hT => ?_⟩
  have R3 := R2.new (o := .tup [v1, v2]) hT
  have f3 : Fr ι2 ow2 H2 ι2 ow2 (upd H2 T (.tup [v1, v2])) := Fr.grow (upd_keep hT)
  refine ⟨T, _, rfl, .of upd_same, rfl, v1, _, rfl, ?_⟩
  have h3 := RunS.shift f3 (RunS.shift f2 h2)
  rcases rdBor_cases i env2 st2 with q | ⟨d0, q⟩
  · rw [M.bind_stuck q] at h3; exact h3.elim
  rw [M.bind_ok q] at h3
  obtain ⟨_, _, w, hw, _⟩ := R3.at_bor q
  refine ⟨w, hw, ?_⟩
  refine TEm.ofS R3 h3 fun r4 env4 st4 w4 H4 p4 h4 => ?_
  obtain ⟨ι4, ow4, f4, R4, rv4⟩ := p4.weak
  have h4 := RunS.shift f4 h4
  have rv1 := ((rv1.tr f2.tr).tr f3.tr).tr f4.tr
  have rv2 := (rv2.tr f3.tr).tr f4.tr
  refine ix_rdM R4 hw rv4 rv1 h4 fun H5 env5 st5 ι5 ow5 f5 R5 h5 => ?_
  have h5 : RunS X.K ex W Ω ι5 ow5 H5 D (M.bind (rdBor j) (fun _ => M.bind (evalE C l) fun y => setIxM j r2.1 y.1) env5 st5) := h5
  rcases rdBor_cases j env5 st5 with q5 | ⟨d5, q5⟩
  · rw [M.bind_stuck q5] at h5; exact h5.elim
  rw [M.bind_ok q5] at h5
  obtain ⟨_, _, w5, hw5, _⟩ := R5.at_bor q5
  refine ⟨v2, _, rfl, w5, hw5, ?_⟩
  refine TEm.ofS R5 h5 fun r6 env6 st6 w6 H6 p6 h6 => ?_
  obtain ⟨ι6, ow6, f6, R6, rv6⟩ := p6.weak
  refine ix_rd R6 hw5 rv6 ((rv2.tr f5.tr).tr f6.tr) (RunS.shift f6 h6) fun H' env3 st3 p => ⟨rfl, ?_⟩
  exact p
/-! ### o.f = e, o.f += e -/
theorem setFD_some {st st' : Sto} {f : Str} {v d : D} (h : setFD st f v d = some st') : ∃ k c al fs, d = .ref k ∧ st[k]? = some (.ins c al fs) ∧ f ∈ al ∧ fs.length < 900 ∧ st' = st.set k (.ins c al (IP.putF f v fs)) := by
  unfold setFD at h
  split at h
  · obtain ⟨z, h1, h2⟩ := Option.bind_eq_some_iff.mp h
    split at h2
    · rename_i h3
      cases h2
      rw [Bool.and_eq_true] at h3
      exact ⟨_, z.1, z.2.1, z.2.2, rfl, insB_some h1, List.contains_iff_mem.mp h3.1, of_decide_eq_true h3.2, rfl⟩
    · cases h2
  · cases h
theorem putF_keys {f : Str} {x : V} {y : IP.D} : ∀ {fvs : List (Str × V)} {fs : List (Str × IP.D)}, fvs.map (·.1) = fs.map (·.1) → (L2.putF f x fvs).map (·.1) = (IP.putF f y fs).map (·.1)
  | [], [], _ => rfl
  | [], (_, _) :: _, h => by cases h
  | (_, _) :: _, [], h => by cases h
  | (g', v) :: fvs, (g, e) :: fs, h => by
    have e1 : g' = g := (List.cons.inj h).1
    have e2 : fvs.map (·.1) = fs.map (·.1) := (List.cons.inj h).2
    subst e1
    unfold L2.putF IP.putF
    by_cases q : g' = f
    · rw [if_pos q, if_pos q, List.map_cons, List.map_cons, e2, q]
    · rw [if_neg q, if_neg q, List.map_cons, List.map_cons, putF_keys e2]
theorem putF_rv {K : PySem.W.Frag} {P : Addr → Prop} {ι : List Addr} {H : Hp} {f : Str} {x : V} {y : IP.D} (r0 : RV K P ι H x y) : ∀ {fvs : List (Str × V)} {fs : List (Str × IP.D)}, fvs.map (·.1) = fs.map (·.1) → RVs K P ι H (fvs.map (·.2)) (fs.map (·.2)) → RVs K P ι H ((L2.putF f x fvs).map (·.2)) ((IP.putF f y fs).map (·.2))
  | [], [], _, _ => .cons r0 .nil
  | [], (_, _) :: _, h, _ => by cases h
  | (_, _) :: _, [], h, _ => by cases h
  | (g', v) :: fvs, (g, e) :: fs, h, r => by
    have e1 : g' = g := (List.cons.inj h).1
    have e2 : fvs.map (·.1) = fs.map (·.1) := (List.cons.inj h).2
    have r : RVs K P ι H (v :: fvs.map (·.2)) (e :: fs.map (·.2)) := r
    subst e1
    unfold L2.putF IP.putF
    cases r with
    | cons r1 r2 =>
      by_cases q : g' = f
      · rw [if_pos q, if_pos q]
        exact .cons r0 r2
      · rw [if_neg q, if_neg q]
        exact .cons r1 (putF_rv r0 e2 r2)
theorem putF_in {f k : Str} {y : IP.D} : ∀ {fs : List (Str × IP.D)}, k ∈ (IP.putF f y fs).map (·.1) → k ∈ fs.map (·.1) ∨ k = f
  | [], h => .inr (by simpa [IP.putF] using h)
  | (g, e) :: fs, h => by
    unfold IP.putF at h
    by_cases q : g = f
    · rw [if_pos q, List.map_cons] at h
      rcases List.mem_cons.mp h with z | z
      · exact .inr z
      · exact .inl (List.mem_cons_of_mem _ z)
    · rw [if_neg q, List.map_cons] at h
      rcases List.mem_cons.mp h with z | z
      · exact .inl (by rw [z]; exact List.mem_cons_self)
      · exact (putF_in z).imp (List.mem_cons_of_mem _) id
theorem setF_rd {K : PySem.W.Frag} {Ω : Addr → Prop} {ι : List Addr} {ow : Nat → Option Addr} {env : EnvI} {st st' : Sto} {σ : L2.St} {H : Hp} {f : Str} {v d : IP.D} {x y : V} (R : Rel K Ω ι ow env st σ H) (bx : RB K (Prot Ω ι ow) ι H x d) (rv : RV K (Prot Ω ι ow) ι H y v) (h : setFD st f v d = some st') :
    ∃ c, clsD st d = some c ∧ ∃ a dx fs, x = .ref a ∧ H a = some (.ins (He.ga K c) dx fs) ∧ Cls K (He.ga K c) ∧ NoAttr K (He.ga K c) f ∧ fs.length < 1000 ∧ Rel K Ω ι ow env st' σ (upd H a (.ins (He.ga K c) dx (L2.putF f y fs))) ∧ Fr ι ow H ι ow (upd H a (.ins (He.ga K c) dx (L2.putF f y fs))) := by
  obtain ⟨k, c, al, fs, rfl, h1, h2, h3, rfl⟩ := setFD_some h
  obtain ⟨a, dx, fvs, rfl, h4, h5, h6, h7, h8, h9⟩ := R.insAt bx h1
  have hl : fvs.length = fs.length := by
    have := congrArg List.length h7
    simpa using this
  refine ⟨c, by show (insB st[k]?).map _ = _; rw [h1]; rfl, a, dx, fvs, rfl, h5, h6.1, h6.2 f h2, by omega, ?_⟩
  exact R.setBox (ho := .ins (He.ga K c) dx (L2.putF f y fvs)) (bx := .ins c al (IP.putF f v fs)) (List.getElem?_eq_some_iff.mp h1).1 h4 fun t => .ins upd_same h6 (putF_keys h7) (fun g hg => by
    rcases putF_in hg with z | z
    · exact h8 g z
    · rw [z]; exact h2) ((putF_rv rv h7 h9).tr t)
theorem setFM_rd {K : PySem.W.Frag} {Ω : Addr → Prop} {ι : List Addr} {ow : Nat → Option Addr} {env : EnvI} {st : Sto} {σ : L2.St} {H : Hp} {f : Str} {v d : IP.D} {x y : V} {D : Ends} {Q : Hp → Prop} (R : Rel K Ω ι ow env st σ H) (bx : RB K (Prot Ω ι ow) ι H x d) (rv : RV K (Prot Ω ι ow) ι H y v) (h : RunS K ex W Ω ι ow H D (setFM f v [d] env st)) (hq : ∀ (σ' : L2.St) H', D.nx σ H' → Q H') :
    ∃ a C dx fs, x = .ref a ∧ H a = some (.ins C dx fs) ∧ Cls K C ∧ NoAttr K C f ∧ fs.length < 1000 ∧ Q (upd H a (.ins C dx (L2.putF f y fs))) := by
  have h : RunS K ex W Ω ι ow H D (match setFD st f v d with | some st' => .ok .nx env st' | none => .stuck) := h
  cases q : setFD st f v d with
  | none => rw [q] at h; exact h.elim
  | some st' =>
    rw [q] at h
    obtain ⟨c, _, a, dx, fs, e1, e2, e3, e4, e5, R3, f3⟩ := setF_rd R bx rv q
    exact ⟨a, _, dx, fs, e1, e2, e3, e4, e5, hq σ _ (h _ _ ⟨ι, ow, f3, R3⟩)⟩
/-- operands within a statement -/
theorem ops_ofS {K : PySem.W.Frag} {Ω : Addr → Prop} {ι : List Addr} {ow : Nat → Option Addr} {env : EnvI} {st : Sto} {σ : L2.St} {H : Hp} {D : Ends} {f : List IP.D → M Fl} {Q : List V → Hp → Prop} (os : List E) (R : Rel K Ω ι ow env st σ H) (h : RunS K ex W Ω ι ow H D (M.bind (evalOs C os) f env st))
    (hq : ∀ ds env1 st1 vs H1 ι1 ow1, Fr ι ow H ι1 ow1 H1 → Rel K Ω ι1 ow1 env1 st1 σ H1 → ROs K (Prot Ω ι1 ow1) ι1 H1 os vs ds → RunS K ex W Ω ι1 ow1 H1 D (f ds env1 st1) → Q vs H1) : tOs K ex C W os σ H Q := by
  refine ops_of (Qf := fun ds e s => RunS K ex W Ω ι ow H D (f ds e s)) (f := M.ret) os R ?_ fun ds env1 st1 vs H1 ι1 ow1 f1 R1 ro h1 => hq ds env1 st1 vs H1 ι1 ow1 f1 R1 ro (RunS.shift f1 h1)
  have h2 := h.bind σ
  unfold M.bind
  cases e : evalOs C os env st with
  | ok a b c => rw [e] at h2; exact h2
  | err a b c => rw [e] at h2; exact h2
  | stuck => rw [e] at h2; exact h2
theorem js_setF {x f : Str} {e : Expr} {i k : E} {p0 p1 pos : Pos} (hn : noComp e = true) (ho : PE X (.Name x p0) (tO X.K ex C W i)) (he : JE X ex C W e k) : JS X ex C sub N W (.Assign [.Attribute (.Name x p0) f p1] e pos) (.setF i f k) := by
  refine (ps_fld ho he.pe (noComp_swaps hn _ _ _)).imp fun D σ H ⟨Ω, ι, ow, env, st, R, h⟩ => ?_
  have h : RunS X.K ex W Ω ι ow H D (M.bind (evalE C k) (fun v => M.bind (evalOs C [i]) fun os => setFM f v.1 os) env st) := h
  refine TEm.ofS R h fun r env1 st1 y H1 p h1 => ?_
  obtain ⟨ι1, ow1, f1, R1, rv⟩ := p.weak
  have key := ops_ofS (Q := G1 fun x H2 => ∃ a C dx fs, x = .ref a ∧ H2 a = some (.ins C dx fs) ∧ Cls X.K C ∧ NoAttr X.K C f ∧ fs.length < 1000 ∧ D.nx σ (upd H2 a (.ins C dx (L2.putF f y fs)))) [i] R1 (RunS.shift f1 h1) fun ds env2 st2 vs H2 ι2 ow2 f2 R2 ro h2 => by
    match vs, ds, ro.rb, ro.length.1, ro.length.2 with
    | [x], [d], .cons bx .nil, _, _ => exact setFM_rd R2 bx (rv.tr f2.tr) h2 fun σ' H' p => p
  exact key
/-! ### x += e -/
def ipA : TIp := fun x y H Q => (∃ i j, x = .int i ∧ y = .int j ∧ Q (.int (i + j)) H) ∨ (∃ i j, x = .str i ∧ y = .str j ∧ i.length + j.length ≤ sizeLine ∧ Q (.str (i ++ j)) H)
theorem pip_add : PIp X .Add ipA := by
  intro pins s σ H x y v u Q I r1 r2 h
  rcases h with h | h
  · exact ip_add pins s σ H x y v u Q I r1 r2 h
  · exact iop_add_str pins s σ H x y v u Q I r1 r2 h
theorem js_aug (c : Ctx g ex C cn X) {x : Str} {i : Nat} {e : Expr} {k : E} {p0 pos : Pos} (hx : wrIx cn x = some i) (he : JE X ex C W e k) : JS X ex C sub N W (.AugAssign (.Name x p0) .Add e pos) (.aug i k) := by
  obtain ⟨h1, h2, h3⟩ := c.write hx
  refine (ps_aug c.nd h1 h2 he.pe pip_add h3).imp fun D σ H ⟨Ω, ι, ow, env, st, R, h⟩ => ?_
  have h : RunS X.K ex W Ω ι ow H D (M.bind (rdBor i) (fun x => M.bind (evalE C k) fun r => M.bind (M.opt (aug2 x r.1)) fun z => M.bind (setTg (.name i) (pv z)) fun _ => M.ret .nx) env st) := h
  rcases rdBor_cases i env st with q | ⟨d0, q⟩
  · rw [M.bind_stuck q] at h; exact h.elim
  rw [M.bind_ok q] at h
  obtain ⟨_, _, u, hu, rb⟩ := R.at_bor q
  refine ⟨u, hu, ?_⟩
  refine TEm.ofS R h fun r env1 st1 v H1 p h1 => ?_
  obtain ⟨ι1, ow1, f1, R1, rv⟩ := p.weak
  cases ea : aug2 d0 r.1 with
  | none =>
    rw [M.bind_stuck (show M.opt (aug2 d0 r.1) env1 st1 = .stuck by rw [ea]; rfl)] at h1
    exact h1.elim
  | some z =>
    rw [M.bind_ok (show M.opt (aug2 d0 r.1) env1 st1 = .ok z env1 st1 by rw [ea]; rfl)] at h1
    have fin : ∀ w, RV X.K (Prot Ω ι1 ow1) ι1 H1 w z → D.nx (σ.set i (some w)) H1 := fun w rw' => by
      rcases setTg_cases (.name i) (pv z) env1 st1 with q2 | ⟨env2, q2⟩
      · rw [M.bind_stuck q2] at h1; exact h1.elim
      · rw [M.bind_ok q2] at h1
        exact tg_of R1 q2 rw' _ fun σ' ow' R2 hl _ => h1 σ' H1 ⟨ι1, ow', f1.trans (.less hl), R2⟩
    unfold aug2 at ea
    split at ea
    · rename_i a b e2
      cases ea
      rw [e2] at rv
      cases rv
      exact .inl ⟨a, b, rb.int, rfl, fin _ (.int _)⟩
    · rename_i a b e2
      obtain ⟨hz, rfl⟩ := gd_some ea
      rw [e2] at rv
      cases rv
      exact .inr ⟨a, b, rb.str, rfl, of_decide_eq_true hz, fin _ (.str _)⟩
    · cases ea
theorem js_augF {x f : Str} {e : Expr} {i k : E} {p0 p1 pos : Pos} (ho : PE X (.Name x p0) (tO X.K ex C W i)) (he : JE X ex C W e k) : JS X ex C sub N W (.AugAssign (.Attribute (.Name x p0) f p1) .Add e pos) (.augF i f k) := by
  refine (ps_fldaug (rd := ipA) ho he.pe pip_add).imp fun D σ H ⟨Ω, ι, ow, env, st, R, h⟩ => ?_
  have h : RunS X.K ex W Ω ι ow H D (M.bind (evalOs C [i]) (fun os => M.bind (fldM f os) fun x => M.bind (evalE C k) fun v => M.bind (M.opt (aug2 x.1 v.1)) fun z => setFC f z x.2 os) env st) := h
  have key := ops_ofS (Q := G1 fun x H1 => ∃ a C' dx fs v, x = .ref a ∧ H1 a = some (.ins C' dx fs) ∧ Cls X.K C' ∧ NoAttr X.K C' f ∧ fs.lookup f = some v ∧
      TEm X.K ex W (evalE C k) σ H1 fun y H2 => ipA v y H2 fun z H3 => ∃ dx' fs', H3 a = some (.ins C' dx' fs') ∧ fs'.length < 1000 ∧ D.nx σ (upd H3 a (.ins C' dx' (L2.putF f z fs')))) [i] R h fun ds env2 st2 vs H2 ι2 ow2 f2 R2 ro h2 => by
    match vs, ds, ro.rb, ro.length.1, ro.length.2 with
    | [x], [d], .cons bx .nil, _, _ =>
      have h2 : RunS X.K ex W Ω ι2 ow2 H2 D (M.bind (fldM f [d]) (fun x => M.bind (evalE C k) fun v => M.bind (M.opt (aug2 x.1 v.1)) fun z => setFC f z x.2 [d]) env2 st2) := h2
      have hm : fldM f [d] env2 st2 = (match fldD st2 f d, clsD st2 d with | some x, some c => .ok (x, c) env2 st2 | _, _ => .stuck) := rfl
      cases q : fldD st2 f d with
      | none =>
        rw [q] at hm
        rw [M.bind_stuck hm] at h2
        exact h2.elim
      | some x0 =>
        obtain ⟨kk, cc, al, fs, rfl, h3, h4⟩ := fldD_some q
        have hc : clsD st2 (.ref kk) = some cc := by show (insB st2[kk]?).map _ = _; rw [h3]; rfl
        rw [q, hc] at hm
        rw [M.bind_ok hm] at h2
        obtain ⟨a, dx, fvs, rfl, g1, g2, g3, g4, g5, g6⟩ := R2.insAt bx h3
        obtain ⟨v, g7, g8⟩ := lookup_rv g4 g6 h4
        refine ⟨a, _, dx, fvs, v, rfl, g2, g3.1, g3.2 f (g5 f (lookup_key h4)), g7, ?_⟩
        refine TEm.ofS R2 h2 fun r env3 st3 y H3 p h5 => ?_
        obtain ⟨ι3, ow3, f3, R3, rv⟩ := p.weak
        have h5 := RunS.shift f3 h5
        cases ea : aug2 x0 r.1 with
        | none =>
          rw [M.bind_stuck (show M.opt (aug2 x0 r.1) env3 st3 = .stuck by rw [ea]; rfl)] at h5
          exact h5.elim
        | some z =>
          rw [M.bind_ok (show M.opt (aug2 x0 r.1) env3 st3 = .ok z env3 st3 by rw [ea]; rfl)] at h5
          have bx3 : RB X.K (Prot Ω ι3 ow3) ι3 H3 (.ref a) (.ref kk) := .inl (.ref (f3.pre _ _ g1))
          have fin : ∀ w, RV X.K (Prot Ω ι3 ow3) ι3 H3 w z → ∃ dx' fs', H3 a = some (.ins (He.ga X.K cc) dx' fs') ∧ fs'.length < 1000 ∧ D.nx σ (upd H3 a (.ins (He.ga X.K cc) dx' (L2.putF f w fs'))) := fun w rw' => by
            have h6 : RunS X.K ex W Ω ι3 ow3 H3 D (if clsD st3 (.ref kk) = some cc then (match setFD st3 f z (.ref kk) with | some st' => .ok .nx env3 st' | none => .stuck) else .stuck) := h5
            by_cases hcc : clsD st3 (.ref kk) = some cc
            case neg => rw [if_neg hcc] at h6; exact h6.elim
            rw [if_pos hcc] at h6
            clear h5
            cases q2 : setFD st3 f z (.ref kk) with
            | none => rw [q2] at h6; exact h6.elim
            | some st' =>
              rw [q2] at h6
              obtain ⟨c3, z1, a3, dx3, fs3, e1, e2, e3, e4, e5, R4, f4⟩ := setF_rd R3 bx3 rw' q2
              rw [hcc] at z1
              cases z1
              cases e1
              exact ⟨dx3, fs3, e2, e5, h6 _ _ ⟨ι3, ow3, f4, R4⟩⟩
          clear h5 h2 hm h
          unfold aug2 at ea
          split at ea
          · rename_i a1 b1 e2
            cases ea
            rw [e2] at rv
            cases rv
            cases g8
            exact .inl ⟨a1, b1, rfl, rfl, fin _ (.int _)⟩
          · rename_i a1 b1 e2
            obtain ⟨hz, rfl⟩ := gd_some ea
            rw [e2] at rv
            cases rv
            cases g8
            exact .inr ⟨a1, b1, rfl, rfl, of_decide_eq_true hz, fin _ (.str _)⟩
          · cases ea
  exact key
/-! ### while -/
theorem js_while (hp : PassesOwn (model X.prog X.w) X.A X.env X.xe) {t : Expr} {body : List Stmt} {k : E} {b : List S} {pos : Pos} (ht : JE X ex C W t k) (hb : JSs X ex C sub N W body b) : JS X ex C sub N W (.While t body [] pos) (.while k b) := by
  refine (ps_while hp ht.pt hb).imp fun D σ H ⟨Ω, ι, ow, env, st, R, h⟩ => ?_
  have h : RunS X.K ex W Ω ι ow H D (whileGo (M.bind (evalE C k) fun r => M.opt (asB r.1)) (evalSs C sub N b) N env st) := h
  refine ⟨fun m σ H => ∃ ι ow env st, Rel X.K Ω ι ow env st σ H ∧ RunS X.K ex W Ω ι ow H D (whileGo (M.bind (evalE C k) fun r => M.opt (asB r.1)) (evalSs C sub N b) m env st), ⟨N, ι, ow, env, st, R, h⟩, ?_⟩
  clear h R
  rintro m σ H ⟨ι, ow, env, st, R, h⟩
  cases m with
  | zero => exact h.elim
  | succ m =>
    have h : RunS X.K ex W Ω ι ow H D (M.bind (M.bind (evalE C k) fun r => M.opt (asB r.1)) (fun b' => if b' then M.bind (evalSs C sub N b) fun f => (match f with
      | .nx => whileGo (M.bind (evalE C k) fun r => M.opt (asB r.1)) (evalSs C sub N b) m
      | .ct => whileGo (M.bind (evalE C k) fun r => M.opt (asB r.1)) (evalSs C sub N b) m
      | .brk => M.ret .nx
      | .ret d fr => M.ret (.ret d fr)) else M.ret .nx) env st) := h
    rw [M.assoc] at h
    refine TEm.ofS R h fun r env1 st1 v H1 p h1 => ?_
    cases e : asB r.1 with
    | none => rw [e] at h1; exact h1.elim
    | some t =>
      rw [e] at h1
      obtain ⟨rfl, ι1, ow1, f1, R1⟩ := bool_of p e
      refine ⟨t, rfl, ?_⟩
      cases t with
      | false =>
        rw [if_neg Bool.false_ne_true]
        exact (show RunS X.K ex W Ω ι ow H D (.ok .nx env1 st1) from h1) σ H1 ⟨ι1, ow1, f1, R1⟩
      | true =>
        rw [if_pos rfl]
        have h1 : RunS X.K ex W Ω ι ow H D (M.bind (evalSs C sub N b) (fun f => (match f with
          | .nx => whileGo (M.bind (evalE C k) fun r => M.opt (asB r.1)) (evalSs C sub N b) m
          | .ct => whileGo (M.bind (evalE C k) fun r => M.opt (asB r.1)) (evalSs C sub N b) m
          | .brk => M.ret .nx
          | .ret d fr => M.ret (.ret d fr))) env1 st1) := h1
        have h1 := RunS.shift f1 h1
        refine ⟨_, fun σ' H' z => ⟨m, Nat.lt_succ_self m, z⟩, Ω, ι1, ow1, env1, st1, R1, ?_⟩
        cases e2 : evalSs C sub N b env1 st1 with
        | err x e' s => rw [M.bind_err e2] at h1; exact h1
        | stuck => rw [M.bind_stuck e2] at h1; exact h1
        | ok f e' s =>
          rw [M.bind_ok e2] at h1
          cases f with
          | nx => exact fun σ' H' ⟨ι2, ow2, f2, R2⟩ => ⟨ι2, ow2, e', s, R2, RunS.shift f2 h1⟩
          | ct => exact fun σ' H' ⟨ι2, ow2, f2, R2⟩ => ⟨ι2, ow2, e', s, R2, RunS.shift f2 h1⟩
          | brk => exact h1
          | ret d fr => exact h1
/-! ### for -/
theorem js_for (hp : PassesOwn (model X.prog X.w) X.A X.env X.xe) (c : Ctx g ex C cn X) {tg iter : Expr} {body : List Stmt} {k : IK} {os : List E} {t : Tg} {b : List S} {pos : Pos} (hi : PI X tg iter (tIt X.K ex C W k os)) (hk : ∀ n, k.nb = some n → os.all E.notBor = true ∧ os.length = n) (hset : ∀ a k p, iter ≠ .Set a k p)
    (ht : tgC cn tg = some t) (hb : JSs X ex C sub N W body b) : JS X ex C sub N W (.For tg iter body [] pos) (.for t k os b) := by
  refine (ps_for hp c.calm hi (pg_tgC c ht) hb (folded_plain hset X.env)).imp fun D σ H ⟨Ω, ι, ow, env, st, R, h⟩ => ?_
  have h : RunS X.K ex W Ω ι ow H D (M.bind (evalOs C os) (fun ds => M.bind (M.opt (itemsD k ds)) fun xs => forGo (fun x => M.bind (setTg t (pv x)) fun _ => evalSs C sub N b) xs) env st) := h
  generalize hstep : (fun x => M.bind (setTg t (pv x)) fun _ => evalSs C sub N b) = step at h
  have h : RunS X.K ex W Ω ι ow H D (M.bind (M.bind (evalOs C os) fun ds => M.bind (M.opt (itemsD k ds)) M.ret) (fun xs => forGo step xs) env st) := by
    rw [M.assoc]
    have : (fun ds => M.bind (M.bind (M.opt (itemsD k ds)) M.ret) fun xs => forGo step xs) = (fun ds => M.bind (M.opt (itemsD k ds)) fun xs => forGo step xs) := by
      funext ds
      rw [M.assoc]
      rfl
    rw [this]
    exact h
  refine it_of R hk (h.bind σ) fun xs env1 st1 H1 ι1 ow1 J f1 R1 hI h1 => ?_
  have h1 : RunS X.K ex W Ω ι1 ow1 H1 D (forGo step xs env1 st1) := RunS.shift f1 h1
  refine ⟨fun i m σ H => ∃ ι ow env st, Rel X.K Ω ι ow env st σ H ∧ ItOk X.K J (Prot Ω ι ow) ι H xs ∧ i ≤ xs.length ∧ m = xs.length - i ∧ RunS X.K ex W Ω ι ow H D (forGo step (xs.drop i) env st), ⟨xs.length, ι1, ow1, env1, st1, R1, hI, Nat.zero_le _, rfl, h1⟩, ?_⟩
  clear h1 hI R1 f1 h R
  rintro i m σ H ⟨ι, ow, env, st, R, hI, hil, rfl, h⟩
  have it := hI _ _ _ Tr.refl
  rcases Nat.lt_or_ge i xs.length with hlt | hge
  · right
    have ed : xs[i]? = some xs[i] := List.getElem?_eq_getElem hlt
    obtain ⟨hgo, hy⟩ := it.next i xs[i] ed
    refine ⟨hgo, _, fun σ' H' z => ⟨xs.length - (i + 1), by omega, z⟩, fun x H' hx => ?_⟩
    obtain ⟨hgr, rx⟩ := hy x H' hx fun a z => R.prot_trk z
    have hI := hI.tr (Tr.grow hgr fun _ _ _ z => z)
    have h := RunS.shift (Fr.grow hgr) h
    have R := R.grow hgr (fun _ z => .inl z) (fun a z => (R.trk a z).elim fun o e => ⟨o, hgr a o e⟩)
    rw [List.drop_eq_getElem_cons hlt] at h
    have h : RunS X.K ex W Ω ι ow H' D (M.bind (step xs[i]) (fun f => match f with
      | .nx => forGo step (xs.drop (i + 1))
      | .ct => forGo step (xs.drop (i + 1))
      | .brk => M.ret .nx
      | .ret d fr => M.ret (.ret d fr)) env st) := h
    have es : step xs[i] = M.bind (setTg t (pv xs[i])) fun _ => evalSs C sub N b := by rw [← hstep]
    rw [es, M.assoc] at h
    rcases setTg_cases t (pv xs[i]) env st with q | ⟨env2, q⟩
    · rw [M.bind_stuck q] at h; exact h.elim
    · rw [M.bind_ok q] at h
      refine tg_of R q rx _ fun σ2 ow2 R2 hl _ => ?_
      have h := RunS.shift (.less hl) h
      have hI2 : ItOk X.K J (Prot Ω ι ow2) ι H' xs := hI.tr (Fr.less hl).tr
      refine ⟨Ω, ι, ow2, env2, st, R2, ?_⟩
      cases e2 : evalSs C sub N b env2 st with
      | err x e' s => rw [M.bind_err e2] at h; exact h
      | stuck => rw [M.bind_stuck e2] at h; exact h
      | ok f e' s =>
        rw [M.bind_ok e2] at h
        cases f with
        | nx => exact fun σ' H' ⟨ι2, ow2, f2, R2⟩ => ⟨ι2, ow2, e', s, R2, hI2.tr f2.tr, hlt, rfl, RunS.shift f2 h⟩
        | ct => exact fun σ' H' ⟨ι2, ow2, f2, R2⟩ => ⟨ι2, ow2, e', s, R2, hI2.tr f2.tr, hlt, rfl, RunS.shift f2 h⟩
        | brk => exact h
        | ret d fr => exact h
  · left
    refine ⟨it.last i hge, ?_⟩
    rw [List.drop_eq_nil_of_le hge] at h
    exact h σ H (post0 R)
end
end IP

set_option Elab.async false
set_option linter.all false
set_option maxRecDepth 100000
set_option maxHeartbeats 2000000
namespace IP
open PySem PySem.Spec PyProof.Rows L2
/-! ### several except clauses, some of them with a name -/
abbrev HT3 := Value × Option Nat × (Addr → Value → Option Addr → TS)
def endsN (D : Ends) : Option Nat → Ends
  | none => D
  | some i => { nx := fun σ H => D.nx (σ.set i none) H, rt := D.rt, bk := fun σ H => D.bk (σ.set i none) H, ct := fun σ H => D.ct (σ.set i none) H }
def stN (σ : L2.St) (a : Addr) : Option Nat → L2.St
  | none => σ
  | some i => σ.set i (some (.ref a))
/-- what the clauses wish of an exception of the body -/
def wHs (K : PySem.W.Frag) (Wout : WX) (D : Ends) : List HT3 → WX
  | [] => Wout
  | (c, o, ts) :: r => fun cls d σ H => ∃ b, PySem.W.exmOne K cls c = some b ∧ (b = true → ∀ a, H a = none → ts a cls d (endsN D o) (stN σ a o) H) ∧ (b = false → wHs K Wout D r cls d σ H)
inductive HdsN (X : Cx) : List ExceptHandler → List HT3 → Prop
  | nil : HdsN X [] []
  | cons {x : Str} {c : Value} {ts : Addr → Value → Option Addr → TS} {s0 : Stmt} {ss : List Stmt} {p q : Pos} {hds : List ExceptHandler} {l : List HT3} (hc : Names X x c)
      (hsu : ∀ (a : Addr) (oe : Obj) (cls : Value) (d : Option Addr) (pn : List (Addr × Obj)), Zc cls d oe → (∃ vs, oe.data = .fields vs) → PSs (X.suite a ((a, oe) :: pn)) (s0 :: ss) (ts a cls d)) (r : HdsN X hds l) : HdsN X (.ExceptHandler (some (.Name x p)) none (s0 :: ss) q :: hds) ((c, none, ts) :: l)
  | named {x n : Str} {i : Nat} {c : Value} {ts : Addr → Value → Option Addr → TS} {s0 : Stmt} {ss : List Stmt} {p q : Pos} {hds : List ExceptHandler} {l : List HT3} (hc : Names X x c) (hi : X.N[i]? = some n) (hl : X.env.kindOf n = some .local)
      (hsu : ∀ (a : Addr) (oe : Obj) (cls : Value) (d : Option Addr) (pn : List (Addr × Obj)), Zc cls d oe → (∃ vs, oe.data = .fields vs) → PSs (X.suite a ((a, oe) :: pn)) (s0 :: ss) (ts a cls d)) (r : HdsN X hds l) : HdsN X (.ExceptHandler (some (.Name x p)) (some n) (s0 :: ss) q :: hds) ((c, some i, ts) :: l)
section
variable {X : Cx} {body : List Stmt} {h0 : ExceptHandler} {hds : List ExceptHandler} {l : List HT3} {pos : Pos} {tb : WX → TS} {Wout : WX}
theorem ps_tries (hs : X.stack = X.env :: X.outer) (hf : X.env.frame = some X.env.locals) (hN : X.N.Nodup) (tk : Takes X Wout)
    (hb : ∀ (W : WX) (pn : List (Addr × Obj)) (xe : Value → Shared → Prop), Takes (X.tr pn xe) W → PassesOwn (model X.prog X.w) X.A X.env xe → PSs (X.tr pn xe) body (tb W))
    (hh : HdsN X (h0 :: hds) l) : PS X (.Try body (h0 :: hds) [] [] pos) (fun D σ H => tb (wHs X.K Wout D l) D σ H) := by
  refine ⟨fun pins s σ H D I h => ?_⟩
  have ok := I.ok
  have fr1 : X.A.frames = some (X.env :: X.outer) := by rw [ok.frames, hs]
  refine wpAny_Try_except (wpAny_mono ((hb (wHs X.K Wout D l) (X.pn ++ pins) (fun e s1 => wpAny (model X.prog X.w) X.A (noteFrame e X.env) (fun _ s2 => wpAny (model X.prog X.w) X.A (setFlight e none) (fun _ s3 => wpAny (model X.prog X.w) X.A (handleBy e X.env (h0 :: hds)) (SP X pins D) X.xe s3) X.xe s2) X.xe s1) (fun u s' xx => ?_) PassesOwn.looking).run [] s σ H D (I.toTry _) h) (fun f s1 hsp => ?_) (fun e s1 he => he))
  · obtain ⟨a, B, sI, pins', σ', H', cls, d, rfl, J', nb, up, sky, na, os, ag, w⟩ := xx
    have J : Inv X pins σ' H' sI := J'.ofTry ok
    have sk2 : Sky B (X.env :: X.outer) a (Zc cls d) X.env.locals s'.heap := by rw [← hs]; exact sky
    refine Sky.land (A := X.A) Zc.steady fr1 hf sk2 fun h3 fl3 up3 => ?_
    have J3 : Inv X pins σ' H' { s' with heap := h3 } := J.landed nb fl3.1 (up.trans up3) os ag
    obtain ⟨o3, v3, he3, hz3, hd3⟩ := fl3.there
    have nfr : a ∉ frs (X.env :: X.outer) := fun hm => by
      obtain ⟨_, o', e', hnf⟩ := fl3.2.2.1.mem hm; rw [he3] at e'; cases e'; exact hnf _ hd3
    have nL : a ≠ X.env.locals := fun z => nfr (List.mem_filterMap.mpr ⟨X.env, List.mem_cons_self, by rw [hf, z]⟩)
    have nF : a ∉ X.fs := fun hm => by
      obtain ⟨e, he, q⟩ := List.mem_filterMap.mp hm; exact nfr (List.mem_filterMap.mpr ⟨e, List.mem_cons_of_mem _ he, q⟩)
    have S3 := J3.suite he3 hd3 na nL nF
    have look : ∀ {x : Str} {c : Value} {p : Pos} {b : Bool} {Q E : Value → Shared → Prop}, Names X x c → PySem.W.exmOne X.K cls c = some b → (Q c { s' with heap := h3 }) → wpAny (model X.prog X.w) (X.A.mark (some (.ref a))) (eval (.Name x p) X.env) Q E { s' with heap := h3 } := fun {x c p b Q E} hc _ q => by
      obtain ⟨hg, hdb, hm | ⟨hm, hv, hnn⟩⟩ := hc
      · exact ld_glob (X := X.suite a ((a, o3) :: (X.pn ++ pins))) S3 hg hm q hdb
      · exact ld_blt (X := X.suite a ((a, o3) :: (X.pn ++ pins))) S3 hg hm hv q hnn hdb
    have LT : PySem.W.Looks (model X.prog X.w) h3 (typeOf (.ref a)) cls := fun A Q E s k q => wpAny_typeOf_ref (k _ _ he3) (by rw [hz3.1]; exact q)
    have go : ∀ {hd' : List ExceptHandler} {l' : List HT3}, HdsN X hd' l' → wHs X.K Wout D l' cls d σ' H' → wpAny (model X.prog X.w) X.A (handleBy (.ref a) X.env hd') (SP X pins D) X.xe { s' with heap := h3 } := by
      intro hd' l' hk
      induction hk with
      | nil =>
        intro w
        obtain ⟨k1, k2, k3, oe, vs, T, oT, ts', he, hz, hd, h1, hr⟩ := id fl3
        have up2 : wpAny (model X.prog X.w) X.A (setFlight (.ref a) X.env.frame) (fun _ s4 => wpAny (model X.prog X.w) X.A (throw (.ref a) : Sem Flow) (SP X pins D) X.xe s4) X.xe { s' with heap := h3 } := by
          rw [hf]
          exact HandSPX.setFlight_upZ fl3 fun h4 hh4 up4 => wpAny_throw (tk _ _ ⟨a, B, sI, pins, σ', H', cls, d, rfl, J, nb, (up.trans up3).trans up4, .inr (.inr (by rw [hs]; exact hh4)), na, os, ag, w⟩)
        refine wpAny_handleBy_nil ?_
        unfold PySem.passOn
        refine wpAny_bind (wpAny_field he hd h1 ?_)
        rw [if_neg (show ¬ ((Value.ref T == Value.none) = true) from by simp)]
        first | exact wpAny_bind (wpAny_pure (wpAny_bind up2)) | exact wpAny_bind up2
      | @cons x c ts s0 ss p q hds2 l2 hc hsu r ih =>
        intro ⟨b, hb1, yes, no⟩
        refine wpAny_handleBy_cons (codeAny_handlers_test (look hc hb1 ((PySem.W.exm_one (M := model X.prog X.w) (J3.kIn) LT hb1).here ?_))) (by intro q; cases q)
        cases b with
        | true =>
          refine codeAny_handlers_suite (HandSPX.lands_againZ fl3 fun h4 fl4 up4 => ?_)
          have J4 : Inv X pins σ' H' { s' with heap := h4 } := J.landed nb fl4.1 ((up.trans up3).trans up4) os ag
          obtain ⟨o4, v4, he4, hz4, hd4⟩ := fl4.there
          refine wpAny_mono ((hsu a o4 cls d (X.pn ++ pins) hz4 ⟨_, hd4⟩).run [] _ _ H' _ (J4.suite he4 hd4 na nL nF) (yes rfl a na)) (fun f s6 hsp => ?_) (fun _ _ z => False.elim z)
          cases f with
          | next => obtain ⟨σ6, H6, S6, q6⟩ := hsp; exact ⟨_, _, S6.unsuite ok, q6⟩
          | brk => obtain ⟨σ6, H6, S6, q6⟩ := hsp; exact ⟨_, _, S6.unsuite ok, q6⟩
          | cont => obtain ⟨σ6, H6, S6, q6⟩ := hsp; exact ⟨_, _, S6.unsuite ok, q6⟩
          | ret u => obtain ⟨v6, σ6, H6, S6, r6, q6⟩ := hsp; exact ⟨_, _, _, S6.unsuite ok, r6, q6⟩
        | false => exact ih (no rfl)
      | @named x n i c ts s0 ss p q hds2 l2 hc hi hl hsu r ih =>
        intro ⟨b, hb1, yes, no⟩
        refine wpAny_handleBy_cons (codeAny_handlers_test (look hc hb1 ((PySem.W.exm_one (M := model X.prog X.w) (J3.kIn) LT hb1).here ?_))) (by intro q; cases q)
        cases b with
        | true =>
          refine codeAny_handlers_suite_as (HandSPX.lands_againZ fl3 fun h4 fl4 up4 => ?_)
          have J4 : Inv X pins σ' H' { s' with heap := h4 } := J.landed nb fl4.1 ((up.trans up3).trans up4) os ag
          obtain ⟨o4, v4, he4, hz4, hd4⟩ := fl4.there
          refine store_ok (X := X.suite a ((a, o4) :: (X.pn ++ pins))) (v := .ref a) (J4.suite he4 hd4 na nL nF) hN hi (.inl hl) rfl (fun s5 S5 => ?_) (.inr hl)
          refine wpAny_mono ((hsu a o4 cls d (X.pn ++ pins) hz4 ⟨_, hd4⟩).run [] s5 _ H' _ S5 (yes rfl a na)) (fun f s6 hsp => ?_) (fun _ _ z => False.elim z)
          have bye : ∀ {σ6 : L2.St} {H6 : Hp} {Q : Shared → Prop}, Inv (X.suite a ((a, o4) :: (X.pn ++ pins))) [] σ6 H6 s6 → (∀ s7, Inv X pins (σ6.set i none) H6 s7 → Q s7) → wpAny (model X.prog X.w) X.A (do bindName X.env n .none; unbindBehindTheSuite X.env n q) (fun _ s7 => Q s7) X.xe s6 := fun {σ6 H6 Q} S6 hq => gone_ok (S6.unsuite ok) hN hi hl hq
          cases f with
          | next => obtain ⟨σ6, H6, S6, q6⟩ := hsp; exact bye S6 fun s7 J7 => ⟨_, _, J7, q6⟩
          | brk => obtain ⟨σ6, H6, S6, q6⟩ := hsp; exact bye S6 fun s7 J7 => ⟨_, _, J7, q6⟩
          | cont => obtain ⟨σ6, H6, S6, q6⟩ := hsp; exact bye S6 fun s7 J7 => ⟨_, _, J7, q6⟩
          | ret u => obtain ⟨v6, σ6, H6, S6, r6, q6⟩ := hsp; exact bye S6 fun s7 J7 => ⟨_, _, _, J7, r6, q6⟩
        | false => exact ih (no rfl)
    exact go hh w
  · cases f with
    | next => obtain ⟨σ', H', J', q⟩ := hsp; exact wpAny_execs_nil ⟨σ', H', J'.ofTry ok, q⟩
    | brk => obtain ⟨σ', H', J', q⟩ := hsp; exact ⟨σ', H', J'.ofTry ok, q⟩
    | cont => obtain ⟨σ', H', J', q⟩ := hsp; exact ⟨σ', H', J'.ofTry ok, q⟩
    | ret u => obtain ⟨v, σ', H', J', r, q⟩ := hsp; exact ⟨v, σ', H', J'.ofTry ok, r, q⟩
end
/-- X(): an own class without own __init__ -/
theorem pmk_own0 {X : Cx} {C : Addr} {bmB : List Value} {B newId initId : String} {x : Str} {p pos : Pos} (F : ExcBaseFacts B newId initId bmB) (q : PySem.W.excIn X.K C bmB newId = true) (gC : X.mg x = some (.ref C)) (kC : PySem.W.keepIn X.K (.ref C) = true) (r : Raises X (.ref C)) (hg : Gl X x)
    (hdb : (x == ("__debug__" : Str)) = false) : PMk X (.Call (.Name x p) [] [] pos) (fun _ H Q => Q (.ref C) none H) := by
  intro pins s σ H Q I h
  refine wpAny_Call_Name_kw (ld_glob I hg gC ?_ hdb)
  refine PySem.W.callWith_K0 I.kIn kC ?_
  obtain ⟨bm, N, nm, qn, bs, hdct, sn, sub, ab, col, dd, k0, k1, k2, k3, k5, mN, hC, hN, hni, T⟩ := exc_obj I.kIn q
  exact wpAny_call_exc_subT F T hC hN hni (fun h' e hm => mk_of I hm r h (I.hok.gone hm.new)) (Nat.zero_le _)
end IP

set_option Elab.async false
set_option linter.all false
set_option maxRecDepth 100000
set_option maxHeartbeats 4000000
namespace IP
open PySem PySem.Spec PyProof.Rows L2
/-- a slot is cleared -/
theorem Rel.clear {K : PySem.W.Frag} {Ω : Addr → Prop} {ι : List Addr} {ow : Nat → Option Addr} {env : EnvI} {st : Sto} {σ : L2.St} {H : Hp} (R : Rel K Ω ι ow env st σ H) (i : Nat) (x : Option V) :
    ∃ ow', Rel K Ω ι ow' (env.set i .none) st (σ.set i x) H ∧ ∀ j a, ow' j = some a → ow j = some a := by
  have key : ∀ (j : Nat) (s : Slot), s ≠ .none → (env.set i .none)[j]? = some s → env[j]? = some s ∧ (σ.set i x)[j]? = σ[j]? := fun j s hs e => by
    by_cases hj : j = i
    · subst hj
      by_cases hl : j < env.length
      · rw [List.getElem?_set_self hl] at e; cases e; exact absurd rfl hs
      · rw [List.getElem?_eq_none (by rw [List.length_set]; omega)] at e; cases e
    · rw [List.getElem?_set_ne (Ne.symm hj)] at e
      exact ⟨e, List.getElem?_set_ne (Ne.symm hj)⟩
  refine ⟨_, R.slots (by rw [List.length_set, List.length_set]; exact R.len) (fun j d e => key j _ (fun z => by cases z) e) (fun j ds e => key j _ (fun z => by cases z) e), fun j a z => ?_⟩
  split at z
  · exact z
  · cases z
section
variable {g : G} {ex : Nat → Addr × Str} {C : CallF} {sub : Nat → Nat → Option Bool} {N : Nat} {cn : Cn} {X : Cx} {W : WX}
theorem PostN.clear {K : PySem.W.Frag} {Ω : Addr → Prop} {ι : List Addr} {ow : Nat → Option Addr} {H : Hp} {env : EnvI} {st : Sto} {σ' : L2.St} {H' : Hp} (p : PostN K Ω ι ow H env st σ' H') (i : Nat) (x : Option V) : PostN K Ω ι ow H (env.set i .none) st (σ'.set i x) H' := by
  obtain ⟨ι', ow', f, R⟩ := p
  obtain ⟨ow2, R2, hl⟩ := R.clear i x
  exact ⟨ι', ow2, f.trans (.less hl), R2⟩
/-! ### raise X() -/
theorem js_raise (c : Ctx g ex C cn X) (tk : Takes X W) {x : Str} {k : Nat} {p cpos pos : Pos} (hg : glN cn x = true) (hn : plainName x = true) (hx : g.exs.lookup x = some k) : JS X ex C sub N W (.Raise (some (.Call (.Name x p) [] [] cpos)) none pos) (.raise k []) := by
  obtain ⟨h1, E⟩ := c.exs x k hx
  refine (ps_raise c.calm tk (pmk_own0 PySem.F.excBase_ValueError E.ex h1 E.kp (raises_own E.sb E.ty) (c.gl hg) (plain_names hn).1)).imp fun D σ H ⟨Ω, ι, ow, env, st, R, h⟩ => ?_
  have h : RunS X.K ex W Ω ι ow H D (.err ⟨k, none⟩ env st) := h
  exact h _ none σ H ⟨ι, ow, .refl, R, rfl, trivial⟩
/-! ### try -/
theorem pk_of : ∀ (n : Nat) (e : Expr) (ir : E), compK n e = some ir → ∀ (X : Cx) (W : WX), PE X e (TEm X.K ex W (evalE C ir)) ∧ (∀ a p, e ≠ .Starred a p) ∧ ir.notBor = true ∧ (∀ i, ir ≠ .var i) ∧ noComp e = true := by
  intro n
  induction n with
  | zero => intro e ir h; cases h
  | succ n ih =>
    intro e ir h X W
    have args : ∀ {es : List Expr} {os : List E}, mapO (compK n) es = some os → PA X es (tOs X.K ex C W os) ∧ os.all E.notBor = true := fun {es os} z => by
      refine ⟨(args_of (fun e o q => ?_) z).1, ?_⟩
      · obtain ⟨p1, p2, p3, _⟩ := ih e o q X W
        refine ⟨p2, ?_⟩
        have : tO X.K ex C W o = TEm X.K ex W (evalE C o) := by cases o <;> first | rfl | cases p3
        rw [this]
        exact p1
      · induction es generalizing os with
        | nil => cases z; rfl
        | cons e es ihs =>
          obtain ⟨o, q1, q2⟩ := bnd (show (compK n e).bind (fun y => (mapO (compK n) es).bind fun ys => some (y :: ys)) = some os from z)
          obtain ⟨l, q3, q4⟩ := bnd q2
          cases q4
          rw [List.all_cons, (ih e o q1 X W).2.2.1, ihs q3]; rfl
    cases e <;> first | cases h; done | skip
    · rename_i k j p
      obtain ⟨d, h1, rfl⟩ := mp (show (conD k).map E.con = some ir from h)
      exact ⟨(je_con h1).pe, (fun a p z => by cases z), rfl, (fun i z => by cases z), rfl⟩
    · rename_i es p
      obtain ⟨os, h1, rfl⟩ := mp (show (mapO (compK n) es).map E.lst = some ir from h)
      obtain ⟨a, b⟩ := args h1
      exact ⟨(je_lst a b).pe, (fun a p z => by cases z), rfl, (fun i z => by cases z), rfl⟩
    · rename_i es k p
      obtain ⟨os, h1, rfl⟩ := mp (show (mapO (compK n) es).map E.tup = some ir from h)
      obtain ⟨a, b⟩ := args h1
      exact ⟨(je_tup a b).pe, (fun a p z => by cases z), rfl, (fun i z => by cases z), rfl⟩
theorem hb_of (c : Ctx g ex C cn X) {body : List Stmt} {b : HB} (h : hbC cn body = some b) (W : WX) : (∃ s0 ss, body = s0 :: ss) ∧ ∀ (a : Addr) (oe : Obj) (pn : List (Addr × Obj)), PSs (X.suite a ((a, oe) :: pn)) body (TSm X.K ex W (hbM C b)) := by
  unfold hbC at h
  split at h
  · rename_i e pos
    obtain ⟨k, h1, rfl⟩ := mp h
    refine ⟨⟨_, _, rfl⟩, fun a oe pn => ?_⟩
    obtain ⟨p1, _, p3, p4, _⟩ := pk_of (ex := ex) (C := C) 8 e k h1 (X.suite a ((a, oe) :: pn)) W
    refine (pss_one (ps_ret p1)).imp fun D σ H ⟨Ω, ι, ow, env, st, R, h⟩ => ?_
    exact TEm.ofS R (show RunS X.K ex W Ω ι ow H D (M.bind (evalE C k) (fun r => M.ret (.ret r.1 r.2)) env st) from h) fun r env1 st1 v H1 p h1 => h1 v H1 p.toT
  · rename_i x px e pos
    obtain ⟨i, h0, h⟩ := bnd h
    obtain ⟨k, h1, rfl⟩ := mp h
    obtain ⟨q1, q2, q3⟩ := c.write h0
    refine ⟨⟨_, _, rfl⟩, fun a oe pn => ?_⟩
    obtain ⟨p1, _, p3, p4, p5⟩ := pk_of (ex := ex) (C := C) 8 e k h1 (X.suite a ((a, oe) :: pn)) W
    refine (pss_one (ps_set (X := X.suite a ((a, oe) :: pn)) c.nd q1 q2 p1 (noComp_swaps p5 _ _ _) q3)).imp fun D σ H ⟨Ω, ι, ow, env, st, R, h⟩ => ?_
    exact asg_rd (sub := fun _ _ => none) (N := 0) ⟨Ω, ι, ow, env, st, R, h⟩
  · cases h
    exact ⟨⟨_, _, rfl⟩, fun a oe pn => (pss_one ps_continue).imp fun D σ H ⟨Ω, ι, ow, env, st, R, h⟩ => h σ H (post0 R)⟩
  · cases h
    exact ⟨⟨_, _, rfl⟩, fun a oe pn => (pss_one ps_pass).imp fun D σ H ⟨Ω, ι, ow, env, st, R, h⟩ => h σ H (post0 R)⟩
  · cases h
def hdT (K : PySem.W.Frag) (ex : Nat → Addr × Str) (C : CallF) (W : WX) : Nat × Option Nat × HB → HT3 := fun h => (.ref (ex h.1).1, h.2.1, fun _ _ _ => TSm K ex W (hbM C h.2.2))
theorem hds_of (c : Ctx g ex C cn X) (W : WX) : ∀ {hs : List ExceptHandler} {l : List (Nat × Option Nat × HB)}, mapO (hdC g cn) hs = some l → HdsN X hs (l.map (hdT X.K ex C W))
  | [], l, h => by cases h; exact .nil
  | h0 :: hs, l, h => by
    obtain ⟨y, h1, h⟩ := bnd (show (hdC g cn h0).bind (fun y => (mapO (hdC g cn) hs).bind fun ys => some (y :: ys)) = some l from h)
    obtain ⟨ys, h2, h⟩ := bnd h
    cases h
    unfold hdC at h1
    split at h1
    · rename_i x px nm body pos
      obtain ⟨u, e1, h1⟩ := bnd h1
      obtain ⟨k, e2, h1⟩ := bnd h1
      obtain ⟨o, e3, h1⟩ := bnd h1
      obtain ⟨b, e4, rfl⟩ := mp h1
      obtain ⟨⟨s0, ss, rfl⟩, hb⟩ := hb_of c e4 W
      have g1 := (gd_some e1).1
      rw [Bool.and_eq_true] at g1
      have nms : Names X x (.ref (ex k).1) := ⟨c.gl g1.1, (plain_names g1.2).1, .inl (c.exs x k e2).1⟩
      cases nm with
      | none =>
        cases e3
        exact .cons nms (fun a oe cls d pn _ _ => hb a oe pn) (hds_of c W h2)
      | some n =>
        obtain ⟨u2, e5, e6⟩ := bnd (show (gd (match cn.nm.lookup n with | some .local => true | _ => false) ()).bind (fun _ => (slotIx cn.N n).map some) = some o from e3)
        obtain ⟨i, e7, rfl⟩ := mp e6
        have e8 : cn.nm.lookup n = some .local := by
          have := (gd_some e5).1
          split at this
          · assumption
          · cases this
        exact .named nms (by rw [c.hN]; exact slotIx_get e7) (show X.env.scope.names.lookup n = _ by rw [c.names]; exact e8) (fun a oe cls d pn _ _ => hb a oe pn) (hds_of c W h2)
    · cases h1
theorem hd_run {K : PySem.W.Frag} (hsub : ∀ a b r, sub a b = some r → PySem.W.exmOne K (.ref (ex a).1) (.ref (ex b).1) = some r) {Ω : Addr → Prop} {ι : List Addr} {ow : Nat → Option Addr} {H : Hp} {D : Ends} {x : Exc} {e' : EnvI} {s : Sto} :
    ∀ (l : List (Nat × Option Nat × HB)), RunS K ex W Ω ι ow H D (hdGo C sub x l e' s) → ∀ cls dd σ' H', PostX K ex Ω ι ow H x e' s σ' cls dd H' → wHs K W D (l.map (hdT K ex C W)) cls dd σ' H'
  | [], h, cls, dd, σ', H', p => h cls dd σ' H' p
  | (k, o, b) :: r, h, cls, dd, σ', H', p => by
    have h : RunS K ex W Ω ι ow H D ((match sub x.c k with
      | some true => runN o (hbM C b)
      | some false => hdGo C sub x r
      | none => fun _ _ => .stuck) e' s) := h
    cases q : sub x.c k with
    | none => rw [q] at h; exact h.elim
    | some v =>
      rw [q] at h
      obtain ⟨ι', ow', f, R, e1, e2⟩ := id p
      refine ⟨v, by rw [e1]; exact hsub _ _ _ q, fun hv a ha => ?_, fun hv => ?_⟩
      · subst hv
        have h : RunS K ex W Ω ι' ow' H' D (runN o (hbM C b) e' s) := RunS.shift f h
        cases o with
        | none => exact ⟨Ω, ι', ow', e', s, R, h⟩
        | some i =>
          obtain ⟨ow2, R2, hl⟩ := R.clear i (some (.ref a))
          have h := RunS.shift (.less hl) h
          refine ⟨Ω, ι', ow2, _, s, R2, ?_⟩
          unfold runN at h
          dsimp only at h
          cases z : hbM C b (e'.set i .none) s with
          | err x e s => rw [z] at h; exact h.elim
          | stuck => rw [z] at h; exact h.elim
          | ok fl e s =>
            rw [z] at h
            cases fl with
            | nx => exact fun σ2 H2 p => h _ H2 (p.clear i none)
            | brk => exact fun σ2 H2 p => h _ H2 (p.clear i none)
            | ct => exact fun σ2 H2 p => h _ H2 (p.clear i none)
            | ret d fr => exact h
      · subst hv
        exact hd_run hsub r h cls dd σ' H' p
theorem js_try (c : Ctx g ex C cn X) (tk : Takes X W) (hs : X.stack = X.env :: X.outer) (hf : X.env.frame = some X.env.locals) (hsub : ∀ a b r, sub a b = some r → PySem.W.exmOne X.K (.ref (ex a).1) (.ref (ex b).1) = some r) {body : List Stmt} {h0 : ExceptHandler} {hds : List ExceptHandler} {b : List S} {l : List (Nat × Option Nat × HB)} {pos : Pos}
    (hb : ∀ (W' : WX) (pn : List (Addr × Obj)) (xe : Value → Shared → Prop), Takes (X.tr pn xe) W' → PassesOwn (model X.prog X.w) X.A X.env xe → JSs (X.tr pn xe) ex C sub N W' body b) (hh : mapO (hdC g cn) (h0 :: hds) = some l) : JS X ex C sub N W (.Try body (h0 :: hds) [] [] pos) (.tri b l) := by
  refine (ps_tries hs hf c.nd tk (tb := fun W' => TSm X.K ex W' (evalSs C sub N b)) hb (hds_of c W hh)).imp fun D σ H ⟨Ω, ι, ow, env, st, R, h⟩ => ?_
  refine ⟨Ω, ι, ow, env, st, R, ?_⟩
  have h : RunS X.K ex W Ω ι ow H D (match evalSs C sub N b env st with
    | .err x env' st' => hdGo C sub x l env' st'
    | r => r) := h
  cases e : evalSs C sub N b env st with
  | err x e' s =>
    rw [e] at h
    exact fun cls dd σ' H' p => hd_run hsub l h cls dd σ' H' p
  | stuck => rw [e] at h; exact h
  | ok f e' s =>
    rw [e] at h
    cases f <;> exact h
end
end IP

set_option Elab.async false
set_option linter.all false
set_option maxRecDepth 100000
set_option maxHeartbeats 4000000
namespace IP
open PySem PySem.Spec PyProof.Rows L2
section
variable {g : G} {ex : Nat → Addr × Str} {C : CallF} {sub : Nat → Nat → Option Bool} {N : Nat} {cn : Cn} {X : Cx} {W : WX} {n : Nat} {bx : Bool}
/-- a list display that is boxed -/
theorem je_box {es : List Expr} {os : List E} {pos : Pos} (ha : PA X es (tOs X.K ex C W os)) (hb : os.all E.notBor = true) : PE X (.List es pos) (TEm X.K ex W (evalE C (.box os))) := by
  refine (pe_lst ha).imp fun σ H Q h => ?_
  obtain ⟨Ω, ι, ow, env, st, R, hr⟩ := h
  refine ops_of os R (show Run X.K ex W Ω ι ow σ H (M.bind (evalOs C os) (fun ds env st => if lineOk ds.length then .ok (pv (.ref st.length)) env (st ++ [.lst ds]) else .stuck) env st) _ from hr) fun ds env1 st1 vs H1 ι1 ow1 f1 R1 ro h1 => ?_
  have h1 : Run X.K ex W Ω ι1 ow1 σ H1 (if lineOk ds.length then .ok (pv (.ref st1.length)) env1 (st1 ++ [.lst ds]) else .stuck) _ := h1
  have rv := ro.rv hb
  split at h1
  · rename_i hz
    refine ⟨by rw [rv.length]; exact line_ok hz, fun p hp => ?_⟩
    obtain ⟨R2, f2⟩ := R1.box (o := .lst _) (bx := .lst ds) hp fun P' ι' t => .lst upd_same (rv.tr t)
    exact h1 (.ref p) _ (.of_pv ⟨ι1 ++ [p], ow1, f1.trans f2, R2, .ref (by rw [← R1.slen]; simp)⟩)
  · exact h1.elim
/-! ### THE THEOREM for statements -/
def SndS (g : G) (bx : Bool) (ex : Nat → Addr × Str) (C : CallF) (sub : Nat → Nat → Option Bool) (N : Nat) (n : Nat) : Prop := ∀ cn s ir, compS g bx n cn s = some ir → ∀ X W, Ctx g ex C cn X → Takes X W → X.stack = X.env :: X.outer → X.env.frame = some X.env.locals → (∀ a b r, sub a b = some r → PySem.W.exmOne X.K (.ref (ex a).1) (.ref (ex b).1) = some r) → PassesOwn (model X.prog X.w) X.A X.env X.xe → JS X ex C sub N W s ir
theorem blk_of {f : Stmt → Option S} (hf : ∀ s ir, f s = some ir → JS X ex C sub N W s ir) : ∀ {ss : List Stmt} {is : List S}, mapO f ss = some is → JSs X ex C sub N W ss is
  | [], is, h => by cases h; exact jss_nil
  | s :: ss, is, h => by
    obtain ⟨i, h1, h⟩ := bnd (show (f s).bind (fun y => (mapO f ss).bind fun ys => some (y :: ys)) = some is from h)
    obtain ⟨l, h2, h⟩ := bnd h
    cases h
    exact jss_cons (hf s i h1) (blk_of hf h2)
theorem comp_var {e : Expr} {j : Nat} (h : compE g n cn e = some (.var j)) (k : retOk e (.var j) = true) : ∃ x p, e = .Name x p ∧ rdIx cn x = some j := by
  cases e <;> first | cases k | skip
  rename_i x p
  cases n with
  | zero => cases h
  | succ n =>
    have h : (match rdIx cn x with
      | some i => some (E.var i)
      | none => (gd (glN cn x && plainName x) ()).bind fun _ => (g.cons.lookup x).map E.con) = some (E.var j) := h
    cases e : rdIx cn x with
    | some i => rw [e] at h; cases h; exact ⟨x, p, rfl, e⟩
    | none =>
      rw [e] at h
      obtain ⟨u, h1, h2⟩ := bnd h
      obtain ⟨d, h4, h5⟩ := mp h2
      cases h5
variable (c : Ctx g ex C cn X) (tk : Takes X W)
include c tk
theorem s_exprStmt {e : Expr} {i : S} {pos : Pos} (h : (gd (noComp e) ()).bind (fun _ => (compE g n cn e).map S.expr) = some i) : JS X ex C sub N W (.Expr e pos) i := by
  obtain ⟨u, h1, h⟩ := bnd h
  obtain ⟨k, h2, rfl⟩ := mp h
  exact js_expr (gd_some h1).1 (sndE n cn e k h2 X W c tk)
theorem s_retStmt {e : Expr} {i : S} {pos : Pos} (h : (compE g n cn e).bind (fun a => gd (retOk e a) (S.ret a)) = some i) : JS X ex C sub N W (.Return (some e) pos) i := by
  obtain ⟨k, h2, h3⟩ := bnd h
  obtain ⟨h4, rfl⟩ := gd_some h3
  by_cases hv : ∃ j, k = .var j
  · obtain ⟨j, rfl⟩ := hv
    obtain ⟨x, p, rfl, hx⟩ := comp_var h2 h4
    exact js_retVar c hx
  · exact js_ret (sndE n cn e k h2 X W c tk).pe fun j z => hv ⟨j, z⟩
theorem s_asgName {x : Str} {px pos : Pos} {e : Expr} {i : S} (h : (gd (swapOk cn x px e) ()).bind (fun _ => (wrIx cn x).bind fun i => (compE g n cn e).map fun a => S.asg (.name i) a) = some i) : JS X ex C sub N W (.Assign [.Name x px] e pos) i := by
  obtain ⟨u, h1, h⟩ := bnd h
  obtain ⟨j, h2, h⟩ := bnd h
  obtain ⟨a, h3, rfl⟩ := mp h
  have hs := (gd_some h1).1
  by_cases hn : noComp e = true
  · exact js_set c h2 hn (sndE n cn e a h3 X W c tk)
  · cases e <;> first | exact absurd rfl hn | cases hs | skip
    rename_i elt gs sc p
    cases n with
    | zero => cases h3
    | succ n =>
      obtain ⟨own, tg, iter, ifs, k, os, fs, t, y, rfl, rfl, h1, h2', h3', h4, h5, h6, h7, h8, h9⟩ := s_lc (sndE n) c tk h3
      exact js_setLc c h2 hs h1 h2' h3' h4 h5 h6 h7 h8 h9
omit c tk in
theorem sndS : ∀ n, SndS g bx ex C sub N n := by
  intro n
  induction n with
  | zero => intro cn s ir h; cases h
  | succ n ih =>
    intro cn s ir h X W c tk hst hfr hsb hp
    have blk : ∀ {ss : List Stmt} {is : List S}, mapO (compS g bx n cn) ss = some is → JSs X ex C sub N W ss is := fun z => blk_of (fun s i q => ih cn s i q X W c tk hst hfr hsb hp) z
    unfold compS at h
    split at h
    · cases h; exact js_pass
    · cases h; exact js_break
    · cases h; exact js_cont
    · -- x.m(e)
      rename_i x p0 m apos e cpos pos
      obtain ⟨u, h1, h4⟩ := bnd h
      obtain ⟨i, h2, h5⟩ := bnd h4
      obtain ⟨a, h3, h6⟩ := bnd h5
      clear h h4 h5
      split at h6
      · rename_i em
        subst em
        cases h6
        exact js_app c h2 (gd_some h1).1 (JE.notStar n h3) (sndE n cn e a h3 X W c tk)
      · split at h6
        · rename_i em
          subst em
          cases h6
          exact js_ext c h2 (gd_some h1).1 (JE.notStar n h3) (sndE n cn e a h3 X W c tk)
        · cases h6
    · exact s_exprStmt c tk h
    · cases h; exact js_retN
    · -- return
      split at h
      · obtain ⟨os, h1, rfl⟩ := mp h
        obtain ⟨a, b⟩ := vals_of (sndE n) c tk h1
        exact js_ret (je_box a b) fun _ z => by cases z
      · exact s_retStmt c tk h
    · -- if
      obtain ⟨k, h1, h⟩ := bnd h
      obtain ⟨i, h2, h⟩ := bnd h
      obtain ⟨j, h3, h⟩ := bnd h
      cases h
      exact js_if (sndE n cn _ k h1 X W c tk) (blk h2) (blk h3)
    · -- while
      obtain ⟨k, h1, h⟩ := bnd h
      obtain ⟨b, h2, rfl⟩ := mp h
      exact js_while hp (sndE n cn _ k h1 X W c tk) (blk h2)
    · -- for
      obtain ⟨⟨k, os⟩, h1, h⟩ := bnd h
      obtain ⟨t, h2, h⟩ := bnd h
      obtain ⟨b, h3, rfl⟩ := mp h
      obtain ⟨i1, i2, i3⟩ := pi_itC (W := W) (ex := ex) (C := C) c h1 fun e ir z => ⟨sndE n cn e ir z X W c tk, JE.notStar n z, comp_set z⟩
      exact js_for hp c i1 i2 i3 h2 (blk h3)
    · exact s_asgName c tk h
    · -- a, b = x, y
      obtain ⟨u, h1, h⟩ := bnd h
      obtain ⟨i, h2, h⟩ := bnd h
      obtain ⟨j, h3, h⟩ := bnd h
      obtain ⟨a, h4, h⟩ := bnd h
      obtain ⟨b, h5, h⟩ := bnd h
      cases h
      have h6 := (gd_some h1).1
      rw [Bool.or_eq_true] at h6
      rcases h6 with h6 | h6
      · exact js_par c h6 h2 h3 (JE.notStar n h4) (JE.notStar n h5) (sndE n cn _ _ h4 X W c tk).pe (sndE n cn _ _ h5 X W c tk).pe
      · exact js_parT c h6 h2 h3 (JE.notStar n h4) (JE.notStar n h5) (sndE n cn _ _ h4 X W c tk).pe (sndE n cn _ _ h5 X W c tk).pe
    · -- a, b, c = x, y, z
      obtain ⟨u, h1, h⟩ := bnd h
      obtain ⟨i, h2, h⟩ := bnd h
      obtain ⟨j, h3, h⟩ := bnd h
      obtain ⟨l, h3', h⟩ := bnd h
      obtain ⟨a, h4, h⟩ := bnd h
      obtain ⟨b, h5, h⟩ := bnd h
      obtain ⟨d, h6, h⟩ := bnd h
      cases h
      exact js_par3 c (gd_some h1).1 h2 h3 h3' (JE.notStar n h4) (JE.notStar n h5) (JE.notStar n h6) (sndE n cn _ _ h4 X W c tk).pe (sndE n cn _ _ h5 X W c tk).pe (sndE n cn _ _ h6 X W c tk).pe
    · -- x[k], y[l] = a, b
      obtain ⟨u, h1, h⟩ := bnd h
      obtain ⟨i, h2, h⟩ := bnd h
      obtain ⟨j, h3, h⟩ := bnd h
      obtain ⟨k, h4, h⟩ := bnd h
      obtain ⟨l, h5, h⟩ := bnd h
      obtain ⟨a, h6, h⟩ := bnd h
      obtain ⟨b, h7, h⟩ := bnd h
      cases h
      have h8 := (gd_some h1).1
      rw [Bool.and_eq_true] at h8
      exact js_parIx c h2 h3 h8.1 h8.2 (JE.notStar n h6) (JE.notStar n h7) (sndE n cn _ _ h4 X W c tk) (sndE n cn _ _ h5 X W c tk) (sndE n cn _ _ h6 X W c tk) (sndE n cn _ _ h7 X W c tk)
    · -- a, b = e
      obtain ⟨u, h1, h⟩ := bnd h
      obtain ⟨t, h2, h⟩ := bnd h
      obtain ⟨a, h3, rfl⟩ := mp h
      have h4 := (gd_some h1).1
      rw [Bool.and_eq_true] at h4
      exact js_tup c h2 h4.1 h4.2 (sndE n cn _ a h3 X W c tk)
    · -- x[k] = e
      obtain ⟨u, h1, h⟩ := bnd h
      obtain ⟨i, h2, h⟩ := bnd h
      obtain ⟨j, h3, h⟩ := bnd h
      obtain ⟨a, h4, rfl⟩ := mp h
      have h5 := (gd_some h1).1
      rw [Bool.and_eq_true] at h5
      exact js_setIx c h2 h5.1 h5.2 (sndE n cn _ j h3 X W c tk) (sndE n cn _ a h4 X W c tk)
    · -- x.f = e
      obtain ⟨u, h1, h⟩ := bnd h
      obtain ⟨i, h2, h⟩ := bnd h
      obtain ⟨a, h3, rfl⟩ := mp h
      exact js_setF (gd_some h1).1 (opd_of (sndE n) c tk h2) (sndE n cn _ a h3 X W c tk)
    · -- raise X()
      obtain ⟨u, h1, h⟩ := bnd h
      obtain ⟨k, h2, rfl⟩ := mp h
      have h3 := (gd_some h1).1
      rw [Bool.and_eq_true] at h3
      exact js_raise c tk h3.1 h3.2 h2
    · -- try
      obtain ⟨b, h1, h⟩ := bnd h
      obtain ⟨l, h2, rfl⟩ := mp h
      exact js_try c tk hst hfr hsb (fun W' pn xe tk' hp' => blk_of (fun s i q => ih cn s i q (X.tr pn xe) W' (c.tr pn xe) tk' hst hfr hsb hp') h1) h2
    · -- x.f += e
      obtain ⟨i, h1, h⟩ := bnd h
      obtain ⟨a, h2, rfl⟩ := mp h
      exact js_augF (opd_of (sndE n) c tk h1) (sndE n cn _ a h2 X W c tk)
    · -- x += e
      obtain ⟨i, h1, h⟩ := bnd h
      obtain ⟨a, h2, rfl⟩ := mp h
      exact js_aug c h1 (sndE n cn _ a h2 X W c tk)
    · cases h
end
end IP

set_option Elab.async false
set_option linter.all false
set_option maxRecDepth 100000
set_option maxHeartbeats 4000000
namespace IP
open PySem PySem.Spec PyProof.Rows L2
/-! ### functions -/
/-- a def of the program: its number, its name, its text, its names, its small form -/
structure FnD where
  ix : Nat
  nm : Str
  st : Stmt
  ps : List Str
  N : List Str
  bx : Bool
  d : FDef
  /-- the class that it stands in, its long name; whether it has a small form -/
  cl : Option Str := none
  qn : Str := nm
  ok : Bool := true
/-- what the top has left of it -/
structure Wr (K : PySem.W.Frag) (mg : Str → Option Value) (F : FnD) (a : Addr) (fd : FuncData) : Prop where
  fn : FunD K F.nm F.qn (defArgs F.st) (defBody F.st) (defScope F.st) [] [] a fd
  bd : Binds K fd F.ps []
  mg : F.cl = none → mg F.nm = some (.ref a)
  me : ∀ c, F.cl = some c → Meth K (He.ga K c) F.nm a
section
variable {K : PySem.W.Frag} {ex : Nat → Addr × Str} {Ω : Addr → Prop} {ι : List Addr} {H : Hp}
theorem PostT.toR {r : R} {st' : Sto} {v : V} {H' : Hp} (p : PostT K Ω ι noow H r st' v H') : PostR K Ω ι noow H r [] st' [] v H' := by
  have pE : ∀ d, PostTE K Ω ι noow H d st' v H' → PostE K Ω ι noow H d [] st' [] v H' := fun d ⟨ι', a, b, c⟩ => ⟨ι', noow, a, b, c⟩
  have pF : ∀ ds, PostTF K Ω ι noow H ds st' v H' → PostF K Ω ι noow H ds [] st' [] v H' := fun ds ⟨ι', q, xs, a, e1, e2, e3, e4, R, r⟩ => by
    refine ⟨ι', noow, q, xs, a, e1, e2, ?_, e4, R, r⟩
    cases e : H q with
    | none => rfl
    | some o =>
      obtain ⟨i, z⟩ := e3 o e
      cases z
  obtain ⟨d, b⟩ := r
  cases b
  · cases d <;> exact pE _ p
  · cases d <;> first | exact pE _ p | exact pF _ p
theorem PostN.toR {env' : EnvI} {st' : Sto} {σ' : L2.St} {H' : Hp} (p : PostN K Ω ι noow H env' st' σ' H') : PostR K Ω ι noow H (.non, false) [] st' [] .non H' := by
  obtain ⟨ι', ow', f, R⟩ := p
  obtain ⟨R', f', _⟩ := R.drop
  exact ⟨ι', noow, f.trans f', R', .non⟩
theorem PostX.toR {x : Exc} {env' : EnvI} {st' : Sto} {σ' : L2.St} {cls : Value} {dd : Option Addr} {H' : Hp} (p : PostX K ex Ω ι noow H x env' st' σ' cls dd H') : PostX K ex Ω ι noow H x [] st' [] cls dd H' := by
  obtain ⟨ι', ow', f, R, h1, h2⟩ := p
  obtain ⟨R', f', hp⟩ := R.drop
  refine ⟨ι', noow, f.trans f', R', h1, ?_⟩
  cases e : x.a with
  | none => trivial
  | some d =>
    rw [e] at h2
    obtain ⟨ad, v, z1, z2, z3⟩ := h2
    exact ⟨ad, v, z1, z2, z3.tr (.less hp)⟩
/-- the state at a body's start -/
theorem rel_start {st : Sto} {vs : List V} {ds : List D} {N : List Str} {np nv : Nat} {b : List S} {ni : Bool} (R : Rel K Ω ι noow [] st [] H) (r : RVs K (Prot Ω ι noow) ι H vs ds) (hp : ds.length = np) (hv : nv = N.length) (hn : np ≤ nv) :
    Rel K Ω ι noow (startI ⟨np, nv, b, ni⟩ ds) st (start N vs) H := by
  have hl := r.length
  refine ⟨?_, R.slen, R.nodup, fun a z => ⟨(R.disj a z).1, fun i q => (by cases q)⟩, R.trk, fun i a z => (by cases z), fun i j a z => (by cases z), fun i a z => (by cases z), fun i d e => ?_, fun i es e => ?_, R.boxs⟩
  · show (ds.map Slot.val ++ List.replicate (nv - np) Slot.none).length = (vs.map some ++ List.replicate (N.length - vs.length) none).length
    simp only [List.length_append, List.length_map, List.length_replicate]
    omega
  · have e : (ds.map Slot.val ++ List.replicate (nv - np) Slot.none)[i]? = some (.val d) := e
    rcases Nat.lt_or_ge i ds.length with h | h
    · rw [List.getElem?_append_left (by rw [List.length_map]; exact h), List.getElem?_map] at e
      obtain ⟨d', e1, e2⟩ := Option.map_eq_some_iff.mp e
      cases e2
      obtain ⟨v, z1, z2⟩ := r.get e1
      refine ⟨v, ?_, z2⟩
      show (vs.map some ++ List.replicate (N.length - vs.length) none)[i]? = _
      rw [List.getElem?_append_left (by rw [List.length_map]; omega), List.getElem?_map, z1]
      rfl
    · rw [List.getElem?_append_right (by rw [List.length_map]; exact h)] at e
      have := List.mem_of_getElem? e
      have := List.eq_of_mem_replicate this
      cases this
  · have e : (ds.map Slot.val ++ List.replicate (nv - np) Slot.none)[i]? = some (.own es) := e
    have := List.mem_of_getElem? e
    rcases List.mem_append.mp this with h | h
    · obtain ⟨d, _, e2⟩ := List.mem_map.mp h
      cases e2
    · have := List.eq_of_mem_replicate h
      cases this
end
section
variable {P : Program} {w : World} {K : PySem.W.Frag} {mg : Str → Option Value} {base : Heap} {g : G} {ex : Nat → Addr × Str} {T : Tab} {N : Nat} {L : List FnD}
/-- the defs, as they are given to the theorem -/
structure Defs (w : World) (K : PySem.W.Frag) (mg : Str → Option Value) (ex : Nat → Addr × Str) (g : G) (T : Tab) (L : List FnD) : Prop where
  tab : ∀ f d, T.fns.lookup f = some d → ∃ F ∈ L, F.ix = f ∧ F.d = d ∧ F.ok = true
  comp : ∀ F ∈ L, F.ok = true → compF g F.bx F.ps F.N F.st = some F.d
  sc : ∀ F ∈ L, F.ok = true → FnScope F.N F.ps (defScope F.st)
  gfns : ∀ x f, g.fns.lookup x = some f → ∃ F ∈ L, F.nm = x ∧ F.ix = f ∧ F.cl = none ∧ F.d.ini = false
  gcls : ∀ x f al, g.cls.lookup x = some (f, al) → mg x = some (.ref (He.ga K x)) ∧ ClsI K x al ∧ (∃ i, Mk K (He.ga K x) i) ∧ ∃ F ∈ L, F.nm = "__init__" ∧ F.ix = f ∧ F.cl = some x ∧ F.d.ini = true
  gmth : ∀ m cs, g.mth.lookup m = some cs → ∀ c f, cs.lookup c = some f → ∃ F ∈ L, F.nm = m ∧ F.ix = f ∧ F.cl = some c ∧ F.d.ini = false
  one : ∀ F ∈ L, ∀ F' ∈ L, F.ix = F'.ix → F = F'
  wr : ∀ F ∈ L, ∃ a fd, Wr K mg F a fd
  blt : ∀ x, g.blt.contains x = true → mg x = none
  dcs : ∀ x kvs, g.dcs.lookup x = some kvs → ∃ a es n, mg x = some (.ref a) ∧ KDict K w a es n ∧ ∀ z, ∃ r, PySem.W.nsIn K a z = some r ∧ (match kvs.lookup z with | some i => ∃ t, r = some (.int i t) | none => r = none)
  exs : ∀ x k, g.exs.lookup x = some k → mg x = some (.ref (ex k).1) ∧ ExI K (ex k).1
  sub : ∀ a b r, T.sub a b = some r → PySem.W.exmOne K (.ref (ex a).1) (.ref (ex b).1) = some r
  cons : ∀ x d, g.cons.lookup x = some d → ∃ v u, mg x = some u ∧ RelV v u ∧ ∀ P ι H, RV K P ι H v d
theorem fn_len {F : FnD} (hc : compF g F.bx F.ps F.N F.st = some F.d) : F.d.np = F.ps.length ∧ F.d.nv = F.N.length ∧ mapO (compS g F.bx 200 ⟨F.N, (defScope F.st).names, fun _ => true⟩) (defBody F.st) = some F.d.body := by
  unfold compF at hc
  split at hc
  · rename_i e
    rw [e]
    obtain ⟨b, h1, h2⟩ := mp hc
    rw [← h2]
    exact ⟨rfl, rfl, h1⟩
  · cases hc
/-- what a call does, by the body -/
theorem callN_at (T : Tab) (N k f : Nat) (ds : List IP.D) (st : Sto) : callN T N (k + 1) f ds st = .stuck ∨ ∃ d, T.fns.lookup f = some d ∧
    ((d.ini = false ∧ callN T N (k + 1) f ds st = runF (callN T N k) T N d ds st) ∨ ∃ j, k = j + 1 ∧ d.ini = true ∧ callN T N (k + 1) f ds st = runF (callN T N j) T N d ds st) := by
  cases k with
  | zero =>
    have e : callN T N 1 f ds st = (match T.fns.lookup f with
      | some d => if d.ini then .stuck else runF (callN T N 0) T N d ds st
      | none => .stuck) := rfl
    rw [e]
    cases T.fns.lookup f with
    | none => exact .inl rfl
    | some d =>
      dsimp only
      cases h : d.ini with
      | true => exact .inl rfl
      | false => exact .inr ⟨d, rfl, .inl ⟨h, rfl⟩⟩
  | succ j =>
    have e : callN T N (j + 2) f ds st = (match T.fns.lookup f with
      | some d => if d.ini then runF (callN T N j) T N d ds st else runF (callN T N (j + 1)) T N d ds st
      | none => .stuck) := rfl
    show callN T N (j + 2) f ds st = .stuck ∨ _
    cases h2 : T.fns.lookup f with
    | none => rw [h2] at e; exact .inl e
    | some d =>
      rw [h2] at e
      dsimp only at e
      cases h : d.ini with
      | true => rw [h] at e; exact .inr ⟨d, rfl, .inr ⟨j, rfl, h, e⟩⟩
      | false => rw [h] at e; exact .inr ⟨d, rfl, .inl ⟨h, e⟩⟩
/-- a promise that nobody has -/
theorem fn_no {a : Addr} {fd : FuncData} {ps : List Str} {sp : Sp} {k : Nat} (no : ∀ {vs : List V} {H : Hp} {Q : VK} {E : XK}, ¬ sp vs H Q E) : FnOk P w K mg base (L2.CX P w) k a fd ps sp :=
  ⟨fun _ _ _ _ h => (no h).elim, fun _ _ _ _ _ _ _ _ _ _ _ _ _ h => (no h).elim⟩
/-- the level of a function at a depth -/
def lvl (F : FnD) (k : Nat) : Nat := if F.d.ini then k else k + 1
/-- one function by those that stand lower -/
theorem fn_step (D : Defs w K mg ex g T L) (j : Nat) (ih : ∀ F ∈ L, ∀ a fd, Wr K mg F a fd → FnOk P w K mg base (L2.CX P w) (lvl F j) a fd F.ps (spC K ex (callN T N j) F.ix)) {F : FnD} (hF : F ∈ L) (hok : F.ok = true) {a : Addr} {fd : FuncData} (hw : Wr K mg F a fd) {sp : Sp}
    (key : ∀ {vs : List V} {H : Hp} {Q : VK} {E : XK}, sp vs H Q E → ∃ Ω ι ds st, Rel K Ω ι noow [] st [] H ∧ RVs K (Prot Ω ι noow) ι H vs ds ∧ ds.length = F.d.np ∧ (match evalSs (callN T N j) T.sub N F.d.body (startI F.d ds) st with
        | .ok .nx _ st' => ∀ v H', PostR K Ω ι noow H (.non, false) [] st' [] v H' → Q v H'
        | .ok (.ret d fr) _ st' => ∀ v H', PostR K Ω ι noow H (d, fr) [] st' [] v H' → Q v H'
        | .err x _ st' => ∀ cls dd H', PostX K ex Ω ι noow H x [] st' [] cls dd H' → E cls dd H'
        | _ => False)) : FnOk P w K mg base (L2.CX P w) (j + 2) a fd F.ps sp := by
  obtain ⟨hnp, hnv, hb⟩ := fn_len (D.comp F hF hok)
  have S := D.sc F hF hok
  refine FunD.ok hw.fn S (fun vs H Q E h => ?_) fun cdv A outer s H vs Q E hr h => ?_
  · obtain ⟨Ω, ι, ds, st, R, r, hl, _⟩ := key h
    rw [r.length, hl, hnp]
  · obtain ⟨Ω, ι, ds, st, R, r, hl, z⟩ := key h
    have hpl : F.ps.length ≤ F.N.length := by
      have := congrArg List.length S.pre
      rw [List.length_take] at this
      omega
    have fni : ∀ F' ∈ L, F'.d.ini = false → ∃ a' fd', Wr K mg F' a' fd' ∧ FnI (cxOf (L2.CX P w) P w K mg base F.N F.qn (defScope F.st) a cdv A outer s H E) ex (callN T N j) F'.ix a' fd' (j + 1) F'.ps := fun F' hF' hi => by
      obtain ⟨a', fd', hw'⟩ := D.wr F' hF'
      have h1 := ih F' hF' a' fd' hw'
      unfold lvl at h1
      rw [hi, if_neg Bool.false_ne_true] at h1
      exact ⟨a', fd', hw', hw'.fn.kp, hw'.bd, h1, hr⟩
    have c : Ctx g ex (callN T N j) ⟨F.N, (defScope F.st).names, fun _ => true⟩ (cxOf (L2.CX P w) P w K mg base F.N F.qn (defScope F.st) a cdv A outer s H E) := by
      refine ⟨rfl, S.nd, rfl, S.kind, fun _ _ => rfl, rfl, hr.units, D.blt, D.cons, fun x f hx => ?_, D.exs, fun x f al hx => ?_, fun m cs hm c f hc => ?_, D.dcs⟩
      · obtain ⟨F', hF', e1, e2, e3, e4⟩ := D.gfns x f hx
        obtain ⟨a', fd', hw', h1⟩ := fni F' hF' e4
        subst e1
        subst e2
        exact ⟨a', fd', j + 1, F'.ps, hw'.mg e3, h1⟩
      · obtain ⟨h1, h2, ⟨i, h3⟩, F', hF', e1, e2, e3, e4⟩ := D.gcls x f al hx
        obtain ⟨a', fd', hw'⟩ := D.wr F' hF'
        have h5 := ih F' hF' a' fd' hw'
        unfold lvl at h5
        rw [e4, if_pos rfl] at h5
        subst e2
        have h6 := (hw'.me x e3).at_
        rw [e1, h3.init] at h6
        have h7 : i = a' := Value.ref.inj (Option.some.inj (Option.some.inj h6))
        subst h7
        exact ⟨h1, h2, i, fd', j, F'.ps, h3, hw'.bd, h5, hr⟩
      · obtain ⟨F', hF', e1, e2, e3, e4⟩ := D.gmth m cs hm c f hc
        obtain ⟨a', fd', hw', h1⟩ := fni F' hF' e4
        subst e1
        subst e2
        exact ⟨a', fd', j + 1, F'.ps, hw'.me c e3, h1⟩
    have tk : Takes (cxOf (L2.CX P w) P w K mg base F.N F.qn (defScope F.st) a cdv A outer s H E) (fun cls d _ H' => E cls d H') := takes_of rfl rfl rfl rfl
    have ps : PassesOwn (model P w) (cxOf (L2.CX P w) P w K mg base F.N F.qn (defScope F.st) a cdv A outer s H E).A (cxOf (L2.CX P w) P w K mg base F.N F.qn (defScope F.st) a cdv A outer s H E).env (cxOf (L2.CX P w) P w K mg base F.N F.qn (defScope F.st) a cdv A outer s H E).xe := passes_of (X := cxOf (L2.CX P w) P w K mg base F.N F.qn (defScope F.st) a cdv A outer s H E) rfl
    have J : JSs (cxOf (L2.CX P w) P w K mg base F.N F.qn (defScope F.st) a cdv A outer s H E) ex (callN T N j) T.sub N (fun cls d _ H' => E cls d H') (defBody F.st) F.d.body := blk_of (fun st ir q => sndS (bx := F.bx) 200 _ st ir q _ _ c tk rfl rfl D.sub ps) hb
    refine ⟨_, J, Ω, ι, noow, startI F.d ds, st, ?_, ?_⟩
    · have := rel_start (b := F.d.body) (ni := F.d.ini) (N := F.N) R r hl hnv (by rw [hnp, hnv]; exact hpl)
      exact this
    · cases q : evalSs (callN T N j) T.sub N F.d.body (startI F.d ds) st with
      | ok f e' s' =>
        rw [q] at z
        cases f with
        | nx => exact fun σ' H' p => z _ _ p.toR
        | brk => exact z.elim
        | ct => exact z.elim
        | ret d fr => exact fun v H' p => z _ _ p.toR
      | err x e' s' =>
        rw [q] at z
        exact fun cls dd σ' H' p => z _ _ _ p.toR
      | stuck => rw [q] at z; exact z
/-- THE THEOREM for functions -/
theorem fn_ok (D : Defs w K mg ex g T L) : ∀ k, ∀ F ∈ L, ∀ a fd, Wr K mg F a fd → FnOk P w K mg base (L2.CX P w) (lvl F k) a fd F.ps (spC K ex (callN T N k) F.ix) := by
  intro k
  induction k using Nat.strongRecOn with
  | ind k ih =>
    intro F hF a fd hw
    have runs : ∀ {j : Nat} {d : FDef} {vs : List V} {H : Hp} {Q : VK} {E : XK}, T.fns.lookup F.ix = some d → (∃ Ω ι ds st, Rel K Ω ι noow [] st [] H ∧ RVs K (Prot Ω ι noow) ι H vs ds ∧ (match runF (callN T N j) T N d ds st with
        | .ok d fr st' => ∀ v H', PostR K Ω ι noow H (d, fr) [] st' [] v H' → Q v H'
        | .err x st' => ∀ cls dd H', PostX K ex Ω ι noow H x [] st' [] cls dd H' → E cls dd H'
        | .stuck => False)) → d = F.d ∧ F.ok = true ∧ ∃ Ω ι ds st, Rel K Ω ι noow [] st [] H ∧ RVs K (Prot Ω ι noow) ι H vs ds ∧ ds.length = F.d.np ∧ (match evalSs (callN T N j) T.sub N F.d.body (startI F.d ds) st with
        | .ok .nx _ st' => ∀ v H', PostR K Ω ι noow H (.non, false) [] st' [] v H' → Q v H'
        | .ok (.ret d fr) _ st' => ∀ v H', PostR K Ω ι noow H (d, fr) [] st' [] v H' → Q v H'
        | .err x _ st' => ∀ cls dd H', PostX K ex Ω ι noow H x [] st' [] cls dd H' → E cls dd H'
        | _ => False) := fun {j d vs H Q E} e h => by
      obtain ⟨F', hF', e1, e2, e3⟩ := D.tab _ _ e
      have e4 := D.one F' hF' F hF e1
      rw [e4] at e2 e3
      subst e2
      refine ⟨rfl, e3, ?_⟩
      obtain ⟨Ω, ι, ds, st, R, r, z⟩ := h
      have z : (match (if ds.length = F.d.np then
          match evalSs (callN T N j) T.sub N F.d.body (startI F.d ds) st with
          | .ok .nx _ st' => CRes.ok .non false st'
          | .ok (.ret d fr) _ st' => .ok d fr st'
          | .err x _ st' => .err x st'
          | _ => .stuck
        else .stuck) with
        | .ok d fr st' => ∀ v H', PostR K Ω ι noow H (d, fr) [] st' [] v H' → Q v H'
        | .err x st' => ∀ cls dd H', PostX K ex Ω ι noow H x [] st' [] cls dd H' → E cls dd H'
        | .stuck => False) := z
      by_cases hl : ds.length = F.d.np
      · rw [if_pos hl] at z
        refine ⟨Ω, ι, ds, st, R, r, hl, ?_⟩
        cases q : evalSs (callN T N j) T.sub N F.d.body (startI F.d ds) st with
        | ok f e' s => rw [q] at z; cases f <;> exact z
        | err x e' s => rw [q] at z; exact z
        | stuck => rw [q] at z; exact z
      · rw [if_neg hl] at z; exact z.elim
    cases k with
    | zero =>
      refine fn_no fun {vs H Q E} h => ?_
      obtain ⟨Ω, ι, ds, st, _, _, z⟩ := h
      exact z
    | succ k =>
      cases e : T.fns.lookup F.ix with
      | none =>
        refine fn_no fun {vs H Q E} h => ?_
        obtain ⟨Ω, ι, ds, st, _, _, z⟩ := h
        rcases callN_at T N k F.ix ds st with h1 | ⟨d, h1, _⟩
        · rw [h1] at z; exact z
        · rw [e] at h1; cases h1
      | some d =>
        obtain ⟨F', hF', e1, e2, e3⟩ := D.tab _ _ e
        have e4 := D.one F' hF' F hF e1
        rw [e4] at e2 e3
        subst e2
        cases hi : F.d.ini with
        | false =>
          unfold lvl
          rw [hi, if_neg Bool.false_ne_true]
          refine fn_step D k (ih k (by omega)) hF e3 hw fun {vs H Q E} h => ?_
          obtain ⟨Ω, ι, ds, st, R, r, z⟩ := h
          refine (runs e ⟨Ω, ι, ds, st, R, r, ?_⟩).2.2
          rcases callN_at T N k F.ix ds st with h1 | ⟨d, h1, ⟨h2, h3⟩ | ⟨j, h2, h3, h4⟩⟩
          · rw [h1] at z; exact z.elim
          · rw [e] at h1; cases h1
            rw [h3] at z; exact z
          · rw [e] at h1; cases h1
            rw [hi] at h3; cases h3
        | true =>
          cases k with
          | zero =>
            refine fn_no fun {vs H Q E} h => ?_
            obtain ⟨Ω, ι, ds, st, _, _, z⟩ := h
            rcases callN_at T N 0 F.ix ds st with h1 | ⟨d, h1, ⟨h2, h3⟩ | ⟨j, h2, h3, h4⟩⟩
            · rw [h1] at z; exact z
            · rw [e] at h1; cases h1
              rw [hi] at h2; cases h2
            · cases h2
          | succ j =>
            unfold lvl
            rw [hi, if_pos rfl]
            refine fn_step D j (ih j (by omega)) hF e3 hw fun {vs H Q E} h => ?_
            obtain ⟨Ω, ι, ds, st, R, r, z⟩ := h
            refine (runs e ⟨Ω, ι, ds, st, R, r, ?_⟩).2.2
            rcases callN_at T N (j + 1) F.ix ds st with h1 | ⟨d, h1, ⟨h2, h3⟩ | ⟨j', h2, h3, h4⟩⟩
            · rw [h1] at z; exact z.elim
            · rw [e] at h1; cases h1
              rw [hi] at h2; cases h2
            · rw [e] at h1; cases h1
              cases h2
              rw [h4] at z; exact z
/-- the law's promise -/
def spLaw (K : PySem.W.Frag) (n : Nat) : Sp := fun vs H Q _ => ∃ (a : Addr) (ns : List Int), vs = [.ref a] ∧ SqL K H a (ns.map V.int) ∧ ns.length ≤ n ∧ ∀ H', Q (.bl true) H'
theorem law_ok (D : Defs w K mg ex g T L) {k n : Nat} {F : FnD} (hF : F ∈ L) {a : Addr} {fd : FuncData} (hw : Wr K mg F a fd) (h : ∀ ns : List Int, ns.length ≤ n → ∃ fr st', callN T N k F.ix [.scr ns] [] = .ok (.bl true) fr st') :
    FnOk P w K mg base (L2.CX P w) (lvl F k) a fd F.ps (spLaw K n) := by
  refine (fn_ok (ex := ex) (N := N) D k F hF a fd hw).imp fun vs H Q E z => ?_
  obtain ⟨p, ns, rfl, hS, hl, q⟩ := z
  obtain ⟨fr, st', e⟩ := h ns hl
  have rv : RV K (Prot (fun _ => False) [] noow) [] H (.ref p) (.scr ns) := by
    rcases hS with hS | hS
    · refine .scrH hS fun z => ?_
      rcases z with z | z | ⟨i, z⟩
      · exact z
      · cases z
      · cases z
    · exact .scrK hS
  refine ⟨fun _ => False, [], [.scr ns], [], ⟨rfl, rfl, .nil, fun a z => z.elim, fun a z => z.elim, fun i a z => (by cases z), fun i j a z => (by cases z), fun i a z => (by cases z), fun i d e => (by simp at e), fun i d e => (by simp at e), fun k d e => (by simp at e)⟩, .cons rv .nil, ?_⟩
  rw [e]
  intro v H' p
  have p : PostR K (fun _ => False) [] noow H (.bl true, fr) [] st' [] v H' := p
  have p : PostE K (fun _ => False) [] noow H (.bl true) [] st' [] v H' := by cases fr <;> exact p
  obtain ⟨_, _, _, _, z⟩ := p
  cases z
  exact q H'
end
end IP

set_option Elab.async false
set_option linter.all false
set_option maxRecDepth 100000
set_option maxHeartbeats 400000
namespace IP
open PySem PySem.Spec PyProof.Rows L2
/-! ### from the facts of the top to the defs -/
def FnD.at_ (F : FnD) : Str × Option Str := match F.cl with
  | none => (F.nm, none)
  | some c => (c, some F.nm)
def FnD.dd (F : FnD) : He.DefD := ⟨F.at_, F.nm, F.qn, defArgs F.st, defBody F.st, defScope F.st, [], []⟩
def FnD.fa (F : FnD) : He.Fa := match F.cl with
  | none => .glo F.nm
  | some c => .meth c F.nm
/-! ### constants of the module -/
mutual
/-- the value u of the written part is d -/
def conB (K : PySem.W.Frag) : D → Value → Bool
  | .non, .none => true
  | .bl b, .bool c => b == c
  | .int i, .int j _ => decide (i = j)
  | .str x, .str y _ => decide (x = y)
  | .tup ds, .ref a => (match K.lookup a with
    | some ⟨.type c, _, .seq its _, _⟩ => decide (c = "tuple") && (decide (its.size ≤ sizeLine) && conBs K ds its.toList)
    | _ => false)
  | _, _ => false
def conBs (K : PySem.W.Frag) : List D → List Value → Bool
  | [], [] => true
  | d :: ds, u :: us => conB K d u && conBs K ds us
  | _, _ => false
end
mutual
theorem conB_ok {K : PySem.W.Frag} : ∀ {d : D} {u : Value}, conB K d u = true → ∃ v, RelV v u ∧ ∀ P ι H, RV K P ι H v d
  | .non, .none, _ => ⟨.non, rfl, fun _ _ _ => .non⟩
  | .bl b, .bool c, h => by
    have e : b = c := by simpa [conB] using h
    exact ⟨.bl b, by rw [e]; rfl, fun _ _ _ => .bl b⟩
  | .int i, .int j t, h => by
    have e : i = j := of_decide_eq_true (show decide (i = j) = true from by simpa [conB] using h)
    exact ⟨.int i, ⟨t, by rw [e]⟩, fun _ _ _ => .int i⟩
  | .str x, .str y t, h => by
    have e : x = y := of_decide_eq_true (show decide (x = y) = true from by simpa [conB] using h)
    exact ⟨.str x, ⟨t, by rw [e]⟩, fun _ _ _ => .str x⟩
  | .tup ds, .ref a, h => by
    unfold conB at h
    split at h
    · rename_i c o its n sl lk
      rw [Bool.and_eq_true, Bool.and_eq_true] at h
      obtain ⟨vs, h1, h2⟩ := conBs_ok h.2.2
      have hc : c = "tuple" := of_decide_eq_true h.1
      exact ⟨.ref a, rfl, fun P ι H => .tupK ⟨_, its, n, lk, by rw [hc], rfl, of_decide_eq_true h.2.1, h1⟩ (h2 P ι H)⟩
    · cases h
theorem conBs_ok {K : PySem.W.Frag} : ∀ {ds : List D} {us : List Value}, conBs K ds us = true → ∃ vs, Vals vs us ∧ ∀ P ι H, RVs K P ι H vs ds
  | [], [], _ => ⟨[], .nil, fun _ _ _ => .nil⟩
  | d :: ds, u :: us, h => by
    have h : (conB K d u && conBs K ds us) = true := h
    rw [Bool.and_eq_true] at h
    obtain ⟨v, h1, h2⟩ := conB_ok h.1
    obtain ⟨vs, h3, h4⟩ := conBs_ok h.2
    exact ⟨v :: vs, .cons h1 h3, fun P ι H => .cons (h2 P ι H) (h4 P ι H)⟩
end
/-- the numbers of a written dict -/
def dctB (K : PySem.W.Frag) (a : Addr) (kvs : List (Str × Int)) : Bool := kvs.all fun q => match PySem.W.nsIn K a q.1 with
  | some (some (.int j _)) => decide (j = q.2)
  | _ => false
def tbOf (g : G) : List He.Tab := g.dcs.map fun p => (fun K => He.ga K p.1, p.2.map (·.1))
/-- all constants stand so -/
def consB (g : G) (K : PySem.W.Frag) : Bool := (g.dcs.all fun p => dctB K (He.ga K p.1) p.2) && g.cons.all fun p => match PySem.W.nsIn K mainGlobals p.1 with
  | some (some u) => conB K p.2 u
  | _ => false
/-- the name of an exception class by its number -/
def exNm (g : G) (k : Nat) : Str := match g.exs.find? fun p => p.2 == k with
  | some p => p.1
  | none => Str.empty
def exOf (K : PySem.W.Frag) (g : G) (k : Nat) : Addr × Str := (He.ga K (exNm g k), Str.empty)
abbrev SubT := List ((Nat × Nat) × Bool)
def faC (p : Str × Nat × List Str) : List He.Fa := .glo p.1 :: .cls p.1 :: .mkr p.1 :: p.2.2.map (.noat p.1)
def faOf (g : G) (L : List FnD) (sb : SubT) : List He.Fa := L.map FnD.fa ++ (g.blt.map .free ++ (g.exs.map (fun p => .glo p.1) ++ (g.exs.map (fun p => .exc p.1) ++ (sb.map (fun p => .exm (exNm g p.1.1) (exNm g p.1.2) p.2) ++ ((g.cls.map faC).flatten ++ g.dcs.map fun p => .glo p.1)))))
/-- what is plain in the text -/
structure Stat (g : G) (T : Tab) (L : List FnD) (sb : SubT) : Prop where
  tab : T.fns = (L.filter fun F => F.ok).map fun F => (F.ix, F.d)
  gfn : ∀ p ∈ g.fns, ∃ F ∈ L, F.nm = p.1 ∧ F.ix = p.2 ∧ F.cl = none ∧ F.d.ini = false
  gcl : ∀ p ∈ g.cls, ∃ F ∈ L, F.nm = "__init__" ∧ F.ix = p.2.1 ∧ F.cl = some p.1 ∧ F.d.ini = true
  gmt : ∀ p ∈ g.mth, ∀ q ∈ p.2, ∃ F ∈ L, F.nm = p.1 ∧ F.ix = q.2 ∧ F.cl = some q.1 ∧ F.d.ini = false
  nod : (L.map (·.ix)).Nodup
  comp : ∀ F ∈ L, F.ok = true → compF g F.bx F.ps F.N F.st = some F.d
  sc : ∀ F ∈ L, F.ok = true → FnScope F.N F.ps (defScope F.st)
  bind : ∀ F ∈ L, ∀ (kV doc pm : Value) (an : Option Addr) (cdv ct : Value) (us : List Value), us.length = F.ps.length → bindArgs (PySem.W.fnOf F.nm F.qn (defArgs F.st) (defBody F.st) (defScope F.st) .none kV doc pm an cdv ct) ⟨us, []⟩ = pure (F.ps.zip us)
  sub : ∀ a b r, T.sub a b = some r → ((a, b), r) ∈ sb
  exn : ∀ x k, g.exs.lookup x = some k → exNm g k = x
theorem exn_of {g : G} (h : g.exs.all (fun p => exNm g p.2 == p.1) = true) : ∀ x k, g.exs.lookup x = some k → exNm g k = x := fun x k hl => by
  have : ∀ {l : List (Str × Nat)}, l.lookup x = some k → (x, k) ∈ l := by
    intro l
    induction l with
    | nil => intro h; cases h
    | cons p r ih =>
      intro h
      rw [List.lookup_cons] at h
      cases e : x == p.1 with
      | true =>
        rw [e] at h
        cases h
        rw [eq_of_beq e]
        exact List.mem_cons_self
      | false =>
        rw [e] at h
        exact List.mem_cons_of_mem _ (ih h)
  exact eq_of_beq (List.all_eq_true.mp h _ (this hl))
theorem all_nil {α : Type} {p : α → Prop} : ∀ x ∈ ([] : List α), p x := fun _ h => by cases h
theorem all_cons {α : Type} {p : α → Prop} {a : α} {l : List α} (h : p a) (t : ∀ x ∈ l, p x) : ∀ x ∈ a :: l, p x := fun x hx => by
  rcases List.mem_cons.mp hx with z | z
  · rw [z]; exact h
  · exact t x z
theorem lookup_mem {α β : Type} [BEq α] [LawfulBEq α] {x : α} {y : β} : ∀ {l : List (α × β)}, l.lookup x = some y → (x, y) ∈ l
  | [], h => by cases h
  | (a, b) :: r, h => by
    rw [List.lookup_cons] at h
    cases e : x == a with
    | true =>
      rw [e] at h
      cases h
      rw [eq_of_beq e]
      exact List.mem_cons_self
    | false =>
      rw [e] at h
      exact List.mem_cons_of_mem _ (lookup_mem h)
theorem nodup_one {α β : Type} {f : α → β} : ∀ {l : List α}, (l.map f).Nodup → ∀ x ∈ l, ∀ y ∈ l, f x = f y → x = y
  | [], _, _, h, _, _, _ => by cases h
  | a :: l, hn, x, hx, y, hy, e => by
    rw [List.map_cons, List.nodup_cons] at hn
    rcases List.mem_cons.mp hx with z | z
    · rcases List.mem_cons.mp hy with u | u
      · rw [z, u]
      · exact absurd (by rw [← z, e]; exact List.mem_map_of_mem u) hn.1
    · rcases List.mem_cons.mp hy with u | u
      · exact absurd (by rw [← u, ← e]; exact List.mem_map_of_mem z) hn.1
      · exact nodup_one hn.2 x z y u e
theorem fad_glo (K : PySem.W.Frag) (x : Str) : He.fAd K (x, none) = He.ga K x := rfl
section
variable {g : G} {T : Tab} {L : List FnD} {sb : SubT} {K : PySem.W.Frag} {h : Heap} {mg : Str → Option Value}
theorem says_fact {fa : List He.Fa} {fn : List He.DefD} (c : He.SaysD fa fn K) {f : He.Fa} (hf : f ∈ fa) : f.ok K = true := by
  obtain ⟨i, hi⟩ := List.getElem?_of_mem hf
  exact c.fact i hi
theorem fad_at (F : FnD) : He.fAd K F.at_ = (match F.cl with | none => He.ga K F.nm | some c => He.ma K (He.ga K c) F.nm) := by
  unfold FnD.at_ He.fAd
  cases F.cl <;> rfl
theorem wr_of (S : Stat g T L sb) (KX : K.In h) (G : h.Ns mainGlobals mg) (c : He.SaysD (faOf g L sb) (L.map FnD.dd) K) (F : FnD) (hF : F ∈ L) : ∃ fd, Wr K mg F (He.fAd K F.at_) fd := by
  obtain ⟨i, hi⟩ := List.getElem?_of_mem (List.mem_map_of_mem (f := FnD.dd) hF)
  obtain ⟨fd, hfd⟩ := c.def_ i hi
  have hfd : FunD K F.nm F.qn (defArgs F.st) (defBody F.st) (defScope F.st) [] [] (He.fAd K F.at_) fd := hfd
  have hfa := says_fact c (List.mem_append_left _ (List.mem_map_of_mem (f := FnD.fa) hF))
  refine ⟨fd, hfd, hfd.bindsN (S.bind F hF), fun hc => ?_, fun cl hc => ?_⟩
  · rw [fad_at, hc]
    unfold FnD.fa at hfa
    rw [hc] at hfa
    exact He.glo_ok KX G hfa
  · rw [fad_at, hc]
    unfold FnD.fa at hfa
    rw [hc] at hfa
    exact He.meth_ok hfa
/-- what is looked up in a written dict -/
theorem ns_keys {P : Params} {x : Str} : ∀ {l : List DictEntry} {ks : List Str}, l.map He.keyOf = He.keysIn P ks → x ∉ ks → l.find? (fun d => d.key.isStr x) = none
  | [], _, _, _ => rfl
  | e :: r, [], h, _ => by cases h
  | e :: r, k :: ks, h, hx => by
    have h1 : He.keyOf e :: r.map He.keyOf = some (k, PyData.keyHash P k) :: He.keysIn P ks := h
    injection h1 with h2 h3
    unfold He.keyOf at h2
    split at h2
    · rename_i y t q
      have h4 : y = k := (Prod.mk.inj (Option.some.inj h2)).1
      have : e.key.isStr x = false := by
        rw [q]
        show (y == x) = false
        rw [h4]
        exact beq_eq_false_iff_ne.mpr fun z => hx (by rw [← z]; exact List.mem_cons_self)
      rw [List.find?_cons, this]
      exact ns_keys h3 fun z => hx (List.mem_cons_of_mem _ z)
    · cases h2
theorem ns_ref {P : Params} : ∀ {l : List DictEntry} {ks : List Str}, l.map He.keyOf = He.keysIn P ks → l.any (·.refKey) = false
  | [], _, _ => rfl
  | e :: r, [], h => by cases h
  | e :: r, k :: ks, h => by
    have h1 : He.keyOf e :: r.map He.keyOf = some (k, PyData.keyHash P k) :: He.keysIn P ks := h
    injection h1 with h2 h3
    unfold He.keyOf at h2
    split at h2
    · rename_i y t q
      rw [List.any_cons, ns_ref h3, Bool.or_false]
      unfold PySem.DictEntry.refKey
      rw [q]
    · cases h2
theorem dct_look {w : World} {a : Addr} {kvs : List (Str × Int)} (h1 : He.dicW K a = some (He.keysIn w.params (kvs.map (·.1)))) (h2 : dctB K a kvs = true) : ∀ z, ∃ r, PySem.W.nsIn K a z = some r ∧ (match kvs.lookup z with | some i => ∃ t, r = some (.int i t) | none => r = none) := by
  intro z
  cases e : kvs.lookup z with
  | some i =>
    have h3 := List.all_eq_true.mp h2 _ (lookup_mem e)
    dsimp only at h3
    split at h3
    · rename_i j t q
      exact ⟨_, q, t, by rw [of_decide_eq_true h3]⟩
    · cases h3
  | none =>
    refine ⟨none, ?_, rfl⟩
    have hz : z ∉ kvs.map (·.1) := fun hz => by
      obtain ⟨p, hp, hq⟩ := List.mem_map.mp hz
      have : kvs.lookup z ≠ none := by
        clear h1 h2 e hz
        induction kvs with
        | nil => cases hp
        | cons q l ih =>
          obtain ⟨a, b⟩ := q
          rw [List.lookup_cons]
          cases e : z == a with
          | true => exact fun h => nomatch h
          | false =>
            rcases List.mem_cons.mp hp with y | y
            · rw [y] at hq
              rw [← hq] at e
              simp at e
            · exact ih y
      exact this e
    obtain ⟨es, n, KD⟩ := He.dicW_ok h1
    have h3 := KD.at_
    unfold He.dicW at h1
    rw [h3] at h1
    have h4 : es.toList.map He.keyOf = He.keysIn w.params (kvs.map (·.1)) := by
      have h1 : (match decide (("dict" : String) = "dict") && ((#[] : Array (Option Value)).isEmpty && !(a == sysModules)) with
        | true => some (es.toList.map He.keyOf)
        | false => none) = _ := h1
      rw [KD.low] at h1
      exact Option.some.inj h1
    have h5 := ns_keys h4 hz
    unfold PySem.W.nsIn
    rw [h3]
    dsimp only
    rw [h5, ns_ref h4]
    rfl
theorem defs_of {w : World} (S : Stat g T L sb) (KX : K.In h) (G : h.Ns mainGlobals mg) (c : He.SaysD (faOf g L sb) (L.map FnD.dd) K) (ct : He.SaysT (faOf g L sb) (L.map FnD.dd) (tbOf g) w K) (cc0 : consB g K = true) : Defs w K mg (exOf K g) g T L where
  dcs := fun x kvs hl => by
    have hm := lookup_mem hl
    have cc1 : ((g.dcs.all fun p => dctB K (He.ga K p.1) p.2) && _) = true := cc0
    rw [Bool.and_eq_true] at cc1
    have h2 := List.all_eq_true.mp cc1.1 _ hm
    have f1 := says_fact c (List.mem_append_right _ (List.mem_append_right _ (List.mem_append_right _ (List.mem_append_right _ (List.mem_append_right _ (List.mem_append_right _ (List.mem_map_of_mem (f := fun p : Str × List (Str × Int) => He.Fa.glo p.1) hm)))))))
    have h1 : He.dicW K (He.ga K x) = some (He.keysIn w.params (kvs.map (·.1))) := by
      have e : (tbOf g).map (fun t => He.dicW K (t.1 K)) = (tbOf g).map fun t => some (He.keysIn w.params t.2) := congrArg (fun z : He.AlT => z.2) ct
      obtain ⟨i, hi⟩ := List.getElem?_of_mem (List.mem_map_of_mem (f := fun p : Str × List (Str × Int) => ((fun K => He.ga K p.1, p.2.map (·.1)) : He.Tab)) hm)
      have e2 : ((tbOf g).map fun t => He.dicW K (t.1 K))[i]? = ((tbOf g).map fun t => some (He.keysIn w.params t.2))[i]? := by rw [e]
      have hi' : (tbOf g)[i]? = some ((fun K => He.ga K x, kvs.map (·.1)) : He.Tab) := hi
      rw [List.getElem?_map, List.getElem?_map, hi'] at e2
      exact Option.some.inj e2
    obtain ⟨es, n, KD⟩ := He.dicW_ok h1
    exact ⟨_, es, n, He.glo_ok KX G f1, KD, dct_look h1 h2⟩
  tab := fun f d hl => by
    rw [S.tab] at hl
    obtain ⟨F, hF, e⟩ := List.mem_map.mp (lookup_mem hl)
    cases e
    obtain ⟨h1, h2⟩ := List.mem_filter.mp hF
    exact ⟨F, h1, rfl, rfl, h2⟩
  comp := S.comp
  sc := S.sc
  gfns := fun x f hl => S.gfn _ (lookup_mem hl)
  gcls := fun x f al hl => by
    have hm := lookup_mem hl
    have hf : ∀ f' ∈ faC (x, f, al), f'.ok K = true := fun f' hf' => says_fact c (List.mem_append_right _ (List.mem_append_right _ (List.mem_append_right _ (List.mem_append_right _ (List.mem_append_right _ (List.mem_append_left _ (List.mem_flatten.mpr ⟨_, List.mem_map_of_mem (f := faC) hm, hf'⟩)))))))
    have f1 := hf (.glo x) (List.mem_cons_self)
    have f2 := hf (.cls x) (List.mem_cons_of_mem _ List.mem_cons_self)
    have f3 := hf (.mkr x) (List.mem_cons_of_mem _ (List.mem_cons_of_mem _ List.mem_cons_self))
    refine ⟨He.glo_ok KX G f1, ⟨He.cls_ok f2, fun f' hf' => He.noat_ok (hf (.noat x f') (List.mem_cons_of_mem _ (List.mem_cons_of_mem _ (List.mem_cons_of_mem _ (List.mem_map_of_mem (f := He.Fa.noat x) hf')))))⟩, ⟨_, He.mkr_ok f3⟩, S.gcl _ hm⟩
  gmth := fun m cs hl cl f hc => S.gmt _ (lookup_mem hl) _ (lookup_mem hc)
  one := nodup_one S.nod
  wr := fun F hF => ⟨_, wr_of S KX G c F hF⟩
  blt := fun x hx => He.free_ok KX G (says_fact c (List.mem_append_right _ (List.mem_append_left _ (List.mem_map_of_mem (f := He.Fa.free) (List.contains_iff_mem.mp hx)))))
  exs := fun x k hl => by
    have hm := lookup_mem hl
    have e : (exOf K g k).1 = He.ga K x := by
      show He.ga K (exNm g k) = _
      rw [S.exn x k hl]
    rw [e]
    have f1 := says_fact c (List.mem_append_right _ (List.mem_append_right _ (List.mem_append_left _ (List.mem_map_of_mem (f := fun p : Str × Nat => He.Fa.glo p.1) hm))))
    have f2 := says_fact c (List.mem_append_right _ (List.mem_append_right _ (List.mem_append_right _ (List.mem_append_left _ (List.mem_map_of_mem (f := fun p : Str × Nat => He.Fa.exc p.1) hm)))))
    obtain ⟨z1, z2, z3, z4⟩ := He.exc_ok f2
    exact ⟨He.glo_ok KX G f1, z1, z2, z3, z4⟩
  sub := fun a b r hl => He.exm_ok (says_fact c (List.mem_append_right _ (List.mem_append_right _ (List.mem_append_right _ (List.mem_append_right _ (List.mem_append_left _ (List.mem_map_of_mem (f := fun p : (Nat × Nat) × Bool => He.Fa.exm (exNm g p.1.1) (exNm g p.1.2) p.2) (S.sub a b r hl))))))))
  cons := fun x d hl => by
    have cc1 : ((g.dcs.all fun p => dctB K (He.ga K p.1) p.2) && g.cons.all _) = true := cc0
    rw [Bool.and_eq_true] at cc1
    have z := List.all_eq_true.mp cc1.2 _ (lookup_mem hl)
    dsimp only at z
    split at z
    · rename_i u e
      obtain ⟨v, h1, h2⟩ := conB_ok z
      exact ⟨v, u, PySem.W.mg_of KX G e, h1, h2⟩
    · cases z
end
theorem cx_no {P : Program} {w : World} {st : List Env} {H : Hp} {s s' : Shared} {e : Value} (h : L2.CX P w st H s (fun _ _ _ => False) e s') : False := by
  obtain ⟨_, _, _, _, _, _, _, _, _, _, _, _, z⟩ := h
  exact z
/-- THE END of a law: the interpreter answers True to each script -/
theorem gfn_of {g : G} {L : List FnD} (h : (g.fns.all fun p => L.any fun F => F.nm == p.1 && F.ix == p.2 && F.cl.isNone && !F.d.ini) = true) : ∀ p ∈ g.fns, ∃ F ∈ L, F.nm = p.1 ∧ F.ix = p.2 ∧ F.cl = none ∧ F.d.ini = false := fun p hp => by
  obtain ⟨F, hF, e⟩ := List.any_eq_true.mp (List.all_eq_true.mp h p hp)
  simp only [Bool.and_eq_true, beq_iff_eq, Option.isNone_iff_eq_none, Bool.not_eq_true'] at e
  exact ⟨F, hF, e.1.1.1, e.1.1.2, e.1.2, e.2⟩
theorem gcl_of {g : G} {L : List FnD} (h : (g.cls.all fun p => L.any fun F => F.nm == "__init__" && F.ix == p.2.1 && F.cl == some p.1 && F.d.ini) = true) : ∀ p ∈ g.cls, ∃ F ∈ L, F.nm = "__init__" ∧ F.ix = p.2.1 ∧ F.cl = some p.1 ∧ F.d.ini = true := fun p hp => by
  obtain ⟨F, hF, e⟩ := List.any_eq_true.mp (List.all_eq_true.mp h p hp)
  simp only [Bool.and_eq_true, beq_iff_eq] at e
  exact ⟨F, hF, e.1.1.1, e.1.1.2, e.1.2, e.2⟩
theorem gmt_of {g : G} {L : List FnD} (h : (g.mth.all fun p => p.2.all fun q => L.any fun F => F.nm == p.1 && F.ix == q.2 && F.cl == some q.1 && !F.d.ini) = true) : ∀ p ∈ g.mth, ∀ q ∈ p.2, ∃ F ∈ L, F.nm = p.1 ∧ F.ix = q.2 ∧ F.cl = some q.1 ∧ F.d.ini = false := fun p hp q hq => by
  obtain ⟨F, hF, e⟩ := List.any_eq_true.mp (List.all_eq_true.mp (List.all_eq_true.mp h p hp) q hq)
  simp only [Bool.and_eq_true, beq_iff_eq, Bool.not_eq_true'] at e
  exact ⟨F, hF, e.1.1.1, e.1.1.2, e.1.2, e.2⟩
theorem law_end {l : PySem.W.OpenLaw} {n k N m : Nat} {q : Program} {loose : List Str} {XP : (Str → Option Value) → Heap → Prop} {d : DefRec} {g : G} {T : Tab} {L : List FnD} {sb : SubT} {F : FnD} (S : Stat g T L sb) (hF : F ∈ L) (hps : F.ps = [Str.ofString "script"]) (hnm : d.name = F.nm) (hcl : F.cl = none) (hli : F.d.ini = false) (hn : l.most = some n) (hn2 : n ≤ sizeLine) (hdf : d.params.defaults = []) (hr : Room (k + 1) callerA)
    (hb : ∀ ns : List Int, ns.length ≤ n → ∃ fr st', callN T N k F.ix [.scr ns] [] = .ok (.bl true) fr st') : PySem.W.WalkO q loose XP (He.hookX m (faOf g L sb) (L.map FnD.dd) (tbOf g) [] (consB g)).says l.row.toRowW d [] (fun f vs => PySem.call f vs) := by
  refine Att.attach_call hn hdf fun w _ s mg _ fa _ _ _ _ a _ ns G Y _ _ _ hmg hobj hints hlen hg => ?_
  obtain ⟨K, KX, c⟩ := Y
  have cc := c.more
  have ct := c.t
  have c := c.t.d
  have D := defs_of S KX G.T.g c ct cc
  obtain ⟨fd, hw⟩ := wr_of S KX G.T.g c F hF
  rw [hnm] at hmg
  have e := hmg.symm.trans (hw.mg hcl)
  cases e
  have ok : ∀ base : Heap, K.In base → base.Ns mainGlobals mg → FnOk l.prog w K mg base (L2.CX l.prog w) (k + 1) (He.fAd K F.at_) fd [Str.ofString "script"] (spLaw K n) := fun base _ _ => by
    rw [← hps]
    have := law_ok (P := l.prog) (w := w) (base := base) (N := N) D hF hw hb
    unfold lvl at this
    rw [hli, if_neg Bool.false_ne_true] at this
    exact this
  have bd : ∀ (s : Shared) (u : Value), BindsTo s fd ⟨[u], []⟩ [(Str.ofString "script", u)] := fun s u => by
    have z := hw.fn.bindsA (S.bind F hF) s [u] (by rw [hps]; rfl)
    rw [hps] at z
    exact z
  exact law_call KX G.T.g G.T.b G.T.builtins G.T.nolimit hg hobj hints (Nat.le_trans hlen hn2) hr ok bd (fun H _ hS => ⟨a, ns, rfl, hS, hlen, fun _ => rfl⟩) fun H e s' => cx_no
end IP

set_option Elab.async false
set_option linter.all false
set_option maxRecDepth 100000
namespace IP
open PySem
/-! ### running the small language on paper -/
def Res.bind {α β : Type} (r : Res α) (f : α → EnvI → Sto → Res β) : Res β := match r with
  | .ok a e s => f a e s
  | .err x e s => .err x e s
  | .stuck => .stuck
/-- a test's two ways -/
def onB {α : Type} (o : Option Bool) (x y : EnvI → Sto → Res α) (e : EnvI) (s : Sto) : Res α := match o with
  | some true => x e s
  | some false => y e s
  | none => .stuck
def flN (f : Fl) (m : M Fl) (e : EnvI) (s : Sto) : Res Fl := match f with
  | .nx => m e s
  | .brk => .ok .brk e s
  | .ct => .ok .ct e s
  | .ret d fr => .ok (.ret d fr) e s
def opR {α : Type} (o : Option α) (e : EnvI) (s : Sto) : Res α := match o with
  | some a => .ok a e s
  | none => .stuck
section
variable {α β : Type} {C : CallF} {sub : Nat → Nat → Option Bool} {N : Nat} {env : EnvI} {st : Sto}
@[simp] theorem Res.bind_ok (a : α) (e : EnvI) (s : Sto) (f : α → EnvI → Sto → Res β) : Res.bind (.ok a e s) f = f a e s := (rfl)
@[simp] theorem Res.bind_err (x : Exc) (e : EnvI) (s : Sto) (f : α → EnvI → Sto → Res β) : Res.bind (.err x e s) f = .err x e s := (rfl)
@[simp] theorem Res.bind_stuck (f : α → EnvI → Sto → Res β) : Res.bind .stuck f = .stuck := (rfl)
@[simp] theorem onB_some (c : Bool) (x y : EnvI → Sto → Res α) : onB (some c) x y env st = if c = true then x env st else y env st := by cases c <;> rfl
@[simp] theorem flN_nx (m : M Fl) : flN .nx m env st = m env st := (rfl)
@[simp] theorem flN_brk (m : M Fl) : flN .brk m env st = .ok .brk env st := (rfl)
@[simp] theorem flN_ct (m : M Fl) : flN .ct m env st = .ok .ct env st := (rfl)
@[simp] theorem flN_ret (m : M Fl) (d : D) (fr : Bool) : flN (.ret d fr) m env st = .ok (.ret d fr) env st := (rfl)
@[simp] theorem opR_some (a : α) : opR (some a) env st = .ok a env st := (rfl)
@[simp] theorem opR_none : (opR none env st : Res α) = .stuck := (rfl)
@[simp] theorem opR_gd (c : Bool) (a : α) : opR (gd c a) env st = if c = true then .ok a env st else .stuck := by cases c <;> rfl
@[simp] theorem if_ok (c : Prop) [Decidable c] (a b : α) (e : EnvI) (s : Sto) : (if c then Res.ok a e s else Res.ok b e s) = .ok (if c then a else b) e s := by split <;> rfl
theorem bind_eq (m : M α) (f : α → M β) : M.bind m f env st = Res.bind (m env st) f := by
  unfold M.bind Res.bind
  cases m env st <;> rfl
theorem opt_eq (o : Option α) : M.opt o env st = opR o env st := by cases o <;> rfl
@[simp] theorem if_pv (c : Prop) [Decidable c] (a b : Bool) : (if c then pv (.bl a) else pv (.bl b)) = pv (.bl (if c then a else b)) := by split <;> rfl
@[simp] theorem if_ret (c : Prop) [Decidable c] (a b : Bool) : (if c then Fl.ret (.bl a) false else Fl.ret (.bl b) false) = Fl.ret (.bl (if c then a else b)) false := by split <;> rfl
@[simp] theorem pv_1 (d : D) : (pv d).1 = d := (rfl)
@[simp] theorem pv_2 (d : D) : (pv d).2 = false := (rfl)
@[simp] theorem asB_bl (b : Bool) : asB (.bl b) = some b := (rfl)
@[simp] theorem asI_int (i : Int) : asI (.int i) = some i := (rfl)
end
/-! ### expressions: what follows a part, by name (so that simp does not run ahead) -/
section
variable (C : CallF)
def kPv : D → EnvI → Sto → Res R := fun d e s => .ok (pv d) e s
def kTup : List D → EnvI → Sto → Res R := fun ds e s => opR (gd (lineOk ds.length) (pv (.tup ds))) e s
def kLst : List D → EnvI → Sto → Res R := fun ds e s => opR (gd (lineOk ds.length) (.lst ds, true)) e s
def kBox : List D → EnvI → Sto → Res R := fun ds e s => if lineOk ds.length then .ok (pv (.ref s.length)) e (s ++ [.lst ds]) else .stuck
def kPrim (p : P) : List D → EnvI → Sto → Res R := fun ds e s => opR (pfS s p ds) e s
def kNot : R → EnvI → Sto → Res R := fun r e s => opR ((asB r.1).map fun b => pv (.bl (!b))) e s
def kBl (b : Bool) : EnvI → Sto → Res R := fun e s => .ok (pv (.bl b)) e s
def kAnd (b : E) : R → EnvI → Sto → Res R := fun r e s => onB (asB r.1) (evalE C b) (kBl false) e s
def kOr (b : E) : R → EnvI → Sto → Res R := fun r e s => onB (asB r.1) (kBl true) (evalE C b) e s
def kIte (a b : E) : R → EnvI → Sto → Res R := fun r e s => onB (asB r.1) (evalE C a) (evalE C b) e s
def kC5 (q : P) (y : D) : R → EnvI → Sto → Res R := fun w e s => opR (pfS s q [y, w.1]) e s
def kC4 (q : P) (c : E) (y : D) : EnvI → Sto → Res R := fun e s => Res.bind (evalE C c e s) (kC5 q y)
def kC3 (q : P) (c : E) (y : D) : R → EnvI → Sto → Res R := fun z e s => onB (asB z.1) (kC4 C q c y) (kBl false) e s
def kC2 (p q : P) (c : E) (x : D) : R → EnvI → Sto → Res R := fun y e s => Res.bind (opR (pfS s p [x, y.1]) e s) (kC3 C q c y.1)
def kC1 (p q : P) (b c : E) : R → EnvI → Sto → Res R := fun x e s => Res.bind (evalE C b e s) (kC2 C p q c x.1)
def kD5 (q r : P) (d : E) (y : D) : R → EnvI → Sto → Res R := fun w e s => Res.bind (opR (pfS s q [y, w.1]) e s) (kC3 C r d w.1)
def kD4 (q r : P) (c d : E) (y : D) : EnvI → Sto → Res R := fun e s => Res.bind (evalE C c e s) (kD5 C q r d y)
def kD3 (q r : P) (c d : E) (y : D) : R → EnvI → Sto → Res R := fun z e s => onB (asB z.1) (kD4 C q r c d y) (kBl false) e s
def kD2 (p q r : P) (c d : E) (x : D) : R → EnvI → Sto → Res R := fun y e s => Res.bind (opR (pfS s p [x, y.1]) e s) (kD3 C q r c d y.1)
def kD1 (p q r : P) (b c d : E) : R → EnvI → Sto → Res R := fun x e s => Res.bind (evalE C b e s) (kD2 C p q r c d x.1)
/-- a call's answer within an expression -/
def ofC (r : CRes) (e : EnvI) : Res R := match r with
  | .ok d fr st => .ok (d, fr) e st
  | .err x st => .err x e st
  | .stuck => .stuck
def kCall (f : Nat) : List D → EnvI → Sto → Res R := fun ds e s => ofC (C f ds s) e
def kM3 (f k : Nat) : List D → EnvI → Sto → Res R := fun ds e s => ofC (C f (.ref k :: ds) s) e
def kM2 (es : List E) : Nat × Nat → EnvI → Sto → Res R := fun kf e s => Res.bind (evalOs C es e s) (kM3 C kf.2 kf.1)
def kM1 (m : Str) (cs : List (Str × Nat)) (es : List E) : List D → EnvI → Sto → Res R := fun os e s => Res.bind (opR (methD s m cs os) e s) (kM2 C es)
def mkR (k : Nat) (r : CRes) (e : EnvI) : Res R := match r with
  | .ok .non _ st' => .ok (pv (.ref k)) e st'
  | _ => .stuck
def kMk (c : Str) (al : List Str) (f : Nat) : List D → EnvI → Sto → Res R := fun ds e s => mkR s.length (C f (.ref s.length :: ds) (s ++ [.ins c al []])) e
def kCons (d : D) : List D → EnvI → Sto → Res (List D) := fun ds e s => .ok (d :: ds) e s
def kOs (es : List E) : R → EnvI → Sto → Res (List D) := fun r e s => Res.bind (evalOs C es e s) (kCons r.1)
def kB3 (ds : List D) : D → EnvI → Sto → Res (List D) := fun d e s => .ok (d :: ds) e s
def kB2 (i : Nat) : List D → EnvI → Sto → Res (List D) := fun ds e s => Res.bind (rdBor i e s) (kB3 ds)
def kB1 (i : Nat) (es : List E) : D → EnvI → Sto → Res (List D) := fun _ e s => Res.bind (evalOs C es e s) (kB2 i)
def kL2 : List D → EnvI → Sto → Res R := fun ys e s => .ok (.lst ys, true) e s
def lcS (own : List Nat) (t : Tg) (ifs : List E) (y : E) : D → M (Option D) := fun x env st => (M.bind (setTg t (pv x)) fun _ => M.bind (evalIfs C ifs) fun b => if b then M.bind (evalE C y) fun r => M.ret (some r.1) else M.ret none) (wipeI env own) st
def kL1 (own : List Nat) (t : Tg) (ifs : List E) (y : E) : List D → EnvI → Sto → Res R := fun xs e s => Res.bind (inBlk own (lcGo (lcS C own t ifs y) xs []) e s) kL2
def kL0 (own : List Nat) (t : Tg) (k : IK) (ifs : List E) (y : E) : List D → EnvI → Sto → Res R := fun ds e s => Res.bind (opR (itemsD k ds) e s) (kL1 C own t ifs y)
end
section
variable {C : CallF} {sub : Nat → Nat → Option Bool} {N : Nat} {env e : EnvI} {st s : Sto}
@[simp] theorem kPv_ (d : D) : kPv d e s = .ok (pv d) e s := (rfl)
@[simp] theorem kTup_ (ds : List D) : kTup ds e s = opR (gd (lineOk ds.length) (pv (.tup ds))) e s := (rfl)
@[simp] theorem kLst_ (ds : List D) : kLst ds e s = opR (gd (lineOk ds.length) (.lst ds, true)) e s := (rfl)
@[simp] theorem kBox_ (ds : List D) : kBox ds e s = if lineOk ds.length then .ok (pv (.ref s.length)) e (s ++ [.lst ds]) else .stuck := (rfl)
@[simp] theorem kPrim_ (p : P) (ds : List D) : kPrim p ds e s = opR (pfS s p ds) e s := (rfl)
@[simp] theorem kNot_ (r : R) : kNot r e s = opR ((asB r.1).map fun b => pv (.bl (!b))) e s := (rfl)
@[simp] theorem kBl_ (b : Bool) : kBl b e s = .ok (pv (.bl b)) e s := (rfl)
@[simp] theorem kAnd_ (b : E) (r : R) : kAnd C b r e s = onB (asB r.1) (evalE C b) (kBl false) e s := (rfl)
@[simp] theorem kOr_ (b : E) (r : R) : kOr C b r e s = onB (asB r.1) (kBl true) (evalE C b) e s := (rfl)
@[simp] theorem kIte_ (a b : E) (r : R) : kIte C a b r e s = onB (asB r.1) (evalE C a) (evalE C b) e s := (rfl)
@[simp] theorem kC5_ (q : P) (y : D) (w : R) : kC5 q y w e s = opR (pfS s q [y, w.1]) e s := (rfl)
@[simp] theorem kC4_ (q : P) (c : E) (y : D) : kC4 C q c y e s = Res.bind (evalE C c e s) (kC5 q y) := (rfl)
@[simp] theorem kC3_ (q : P) (c : E) (y : D) (z : R) : kC3 C q c y z e s = onB (asB z.1) (kC4 C q c y) (kBl false) e s := (rfl)
@[simp] theorem kC2_ (p q : P) (c : E) (x : D) (y : R) : kC2 C p q c x y e s = Res.bind (opR (pfS s p [x, y.1]) e s) (kC3 C q c y.1) := (rfl)
@[simp] theorem kC1_ (p q : P) (b c : E) (x : R) : kC1 C p q b c x e s = Res.bind (evalE C b e s) (kC2 C p q c x.1) := (rfl)
@[simp] theorem kD5_ (q r : P) (d : E) (y : D) (w : R) : kD5 C q r d y w e s = Res.bind (opR (pfS s q [y, w.1]) e s) (kC3 C r d w.1) := (rfl)
@[simp] theorem kD4_ (q r : P) (c d : E) (y : D) : kD4 C q r c d y e s = Res.bind (evalE C c e s) (kD5 C q r d y) := (rfl)
@[simp] theorem kD3_ (q r : P) (c d : E) (y : D) (z : R) : kD3 C q r c d y z e s = onB (asB z.1) (kD4 C q r c d y) (kBl false) e s := (rfl)
@[simp] theorem kD2_ (p q r : P) (c d : E) (x : D) (y : R) : kD2 C p q r c d x y e s = Res.bind (opR (pfS s p [x, y.1]) e s) (kD3 C q r c d y.1) := (rfl)
@[simp] theorem kD1_ (p q r : P) (b c d : E) (x : R) : kD1 C p q r b c d x e s = Res.bind (evalE C b e s) (kD2 C p q r c d x.1) := (rfl)
@[simp] theorem ofC_ok (d : D) (fr : Bool) (s : Sto) (e : EnvI) : ofC (.ok d fr s) e = .ok (d, fr) e s := (rfl)
@[simp] theorem ofC_err (x : Exc) (s : Sto) (e : EnvI) : ofC (.err x s) e = .err x e s := (rfl)
@[simp] theorem kCall_ (f : Nat) (ds : List D) : kCall C f ds e s = ofC (C f ds s) e := (rfl)
@[simp] theorem kM3_ (f k : Nat) (ds : List D) : kM3 C f k ds e s = ofC (C f (.ref k :: ds) s) e := (rfl)
@[simp] theorem kM2_ (es : List E) (k f : Nat) : kM2 C es (k, f) e s = Res.bind (evalOs C es e s) (kM3 C f k) := (rfl)
@[simp] theorem kM1_ (m : Str) (cs : List (Str × Nat)) (es : List E) (os : List D) : kM1 C m cs es os e s = Res.bind (opR (methD s m cs os) e s) (kM2 C es) := (rfl)
@[simp] theorem mkR_ok (k : Nat) (fr : Bool) (s : Sto) : mkR k (.ok .non fr s) e = .ok (pv (.ref k)) e s := (rfl)
@[simp] theorem kMk_ (c : Str) (al : List Str) (f : Nat) (ds : List D) : kMk C c al f ds e s = mkR s.length (C f (.ref s.length :: ds) (s ++ [.ins c al []])) e := (rfl)
@[simp] theorem kCons_ (d : D) (ds : List D) : kCons d ds e s = .ok (d :: ds) e s := (rfl)
@[simp] theorem kOs_ (es : List E) (r : R) : kOs C es r e s = Res.bind (evalOs C es e s) (kCons r.1) := (rfl)
@[simp] theorem kB3_ (ds : List D) (d : D) : kB3 ds d e s = .ok (d :: ds) e s := (rfl)
@[simp] theorem kB2_ (i : Nat) (ds : List D) : kB2 i ds e s = Res.bind (rdBor i e s) (kB3 ds) := (rfl)
@[simp] theorem kB1_ (i : Nat) (es : List E) (d : D) : kB1 C i es d e s = Res.bind (evalOs C es e s) (kB2 i) := (rfl)
@[simp] theorem kL2_ (ys : List D) : kL2 ys e s = .ok (.lst ys, true) e s := (rfl)
@[simp] theorem kL1_ (own : List Nat) (t : Tg) (ifs : List E) (y : E) (xs : List D) : kL1 C own t ifs y xs e s = Res.bind (inBlk own (lcGo (lcS C own t ifs y) xs []) e s) kL2 := (rfl)
@[simp] theorem kL0_ (own : List Nat) (t : Tg) (k : IK) (ifs : List E) (y : E) (ds : List D) : kL0 C own t k ifs y ds e s = Res.bind (opR (itemsD k ds) e s) (kL1 C own t ifs y) := (rfl)
theorem bind_to {α β : Type} {m : M α} {f : α → M β} {k : α → EnvI → Sto → Res β} (h : ∀ a e s, f a e s = k a e s) : M.bind m f env st = Res.bind (m env st) k := by
  rw [bind_eq]
  have : (fun a e s => f a e s) = k := by funext a e s; exact h a e s
  rw [← this]
theorem on_to {α : Type} {o : Option Bool} {x y : M α} : (match o with | some true => x | some false => y | none => fun _ _ => .stuck) e s = onB o x y e s := by
  cases o with
  | none => rfl
  | some c => cases c <;> rfl
@[simp] theorem e_var (i : Nat) : evalE C (.var i) env st = Res.bind (rdVar i env st) kPv := bind_to fun _ _ _ => rfl
@[simp] theorem e_con (d : D) : evalE C (.con d) env st = .ok (pv d) env st := (rfl)
@[simp] theorem e_tup (es : List E) : evalE C (.tup es) env st = Res.bind (evalOs C es env st) kTup := bind_to fun _ _ _ => opt_eq _
@[simp] theorem e_lst (es : List E) : evalE C (.lst es) env st = Res.bind (evalOs C es env st) kLst := bind_to fun _ _ _ => opt_eq _
@[simp] theorem e_box (es : List E) : evalE C (.box es) env st = Res.bind (evalOs C es env st) kBox := bind_to fun _ _ _ => rfl
@[simp] theorem e_prim (p : P) (os : List E) : evalE C (.prim p os) env st = Res.bind (evalOs C os env st) (kPrim p) := bind_to fun _ _ _ => opt_eq _
@[simp] theorem e_not (a : E) : evalE C (.not a) env st = Res.bind (evalE C a env st) kNot := bind_to fun _ _ _ => opt_eq _
@[simp] theorem e_and (a b : E) : evalE C (.and a b) env st = Res.bind (evalE C a env st) (kAnd C b) := bind_to fun _ _ _ => on_to (y := M.ret (pv (.bl false)))
@[simp] theorem e_or (a b : E) : evalE C (.or a b) env st = Res.bind (evalE C a env st) (kOr C b) := bind_to fun r e s => by
  show (match asB r.1 with
    | some false => evalE C b
    | some true => M.ret (pv (.bl true))
    | none => fun _ _ => .stuck) e s = _
  rw [kOr_]
  cases asB r.1 with
  | none => rfl
  | some c => cases c <;> rfl
@[simp] theorem e_ite (c a b : E) : evalE C (.ite c a b) env st = Res.bind (evalE C c env st) (kIte C a b) := bind_to fun _ _ _ => on_to
@[simp] theorem e_chain (p q : P) (a b c : E) : evalE C (.chain p q a b c) env st = Res.bind (evalE C a env st) (kC1 C p q b c) := bind_to fun x e s => bind_to fun y e s => by
  refine (bind_to (k := kC3 C q c y.1) fun z e s => ?_).trans ?_
  · refine (on_to (x := M.bind (evalE C c) fun w env st => M.opt (pfS st q [y.1, w.1]) env st) (y := M.ret (pv (.bl false)))).trans ?_
    have : (M.bind (evalE C c) fun w env st => M.opt (pfS st q [y.1, w.1]) env st) = kC4 C q c y.1 := by
      funext e s; exact bind_to fun w e s => opt_eq _
    rw [this]; rfl
  · rw [opt_eq]; rfl
@[simp] theorem e_chain3 (p q r : P) (a b c d : E) : evalE C (.chain3 p q r a b c d) env st = Res.bind (evalE C a env st) (kD1 C p q r b c d) := bind_to fun x e s => bind_to fun y e s => by
  refine (bind_to (k := kD3 C q r c d y.1) fun z e s => ?_).trans ?_
  · refine (on_to (x := M.bind (evalE C c) fun w => M.bind (fun env st => M.opt (pfS st q [y.1, w.1]) env st) fun z2 => match asB z2.1 with
      | some true => M.bind (evalE C d) fun v env st => M.opt (pfS st r [w.1, v.1]) env st
      | some false => M.ret (pv (.bl false))
      | none => fun _ _ => .stuck) (y := M.ret (pv (.bl false)))).trans ?_
    have : (M.bind (evalE C c) fun w => M.bind (fun env st => M.opt (pfS st q [y.1, w.1]) env st) fun z2 => match asB z2.1 with
      | some true => M.bind (evalE C d) fun v env st => M.opt (pfS st r [w.1, v.1]) env st
      | some false => M.ret (pv (.bl false))
      | none => fun _ _ => .stuck) = kD4 C q r c d y.1 := by
      funext e s
      refine bind_to fun w e s => ?_
      refine (bind_to (k := kC3 C r d w.1) fun z2 e s => ?_).trans ?_
      · refine (on_to (x := M.bind (evalE C d) fun v env st => M.opt (pfS st r [w.1, v.1]) env st) (y := M.ret (pv (.bl false)))).trans ?_
        have : (M.bind (evalE C d) fun v env st => M.opt (pfS st r [w.1, v.1]) env st) = kC4 C r d w.1 := by
          funext e s; exact bind_to fun w e s => opt_eq _
        rw [this]; rfl
      · rw [opt_eq]; rfl
    rw [this]; rfl
  · rw [opt_eq]; rfl
@[simp] theorem e_call (f : Nat) (es : List E) : evalE C (.call f es) env st = Res.bind (evalOs C es env st) (kCall C f) := bind_to fun ds e s => by
  show M.call C f ds e s = ofC (C f ds s) e
  unfold M.call ofC
  cases C f ds s <;> rfl
@[simp] theorem e_meth (m : Str) (cs : List (Str × Nat)) (o es : List E) : evalE C (.meth m cs o es) env st = Res.bind (evalOs C o env st) (kM1 C m cs es) := bind_to fun os e s => by
  refine (bind_to (m := fun env st => M.opt (methD st m cs os) env st) (k := kM2 C es) fun kf e s => bind_to fun ds e s => ?_).trans ?_
  · show M.call C kf.2 _ e s = ofC (C kf.2 (.ref kf.1 :: ds) s) e
    unfold M.call ofC
    cases C kf.2 (.ref kf.1 :: ds) s <;> rfl
  · rw [opt_eq]; rfl
@[simp] theorem e_make (c : Str) (al : List Str) (f : Nat) (es : List E) : evalE C (.make c al f es) env st = Res.bind (evalOs C es env st) (kMk C c al f) := bind_to fun ds e s => by
  show (match C f (.ref s.length :: ds) (s ++ [.ins c al []]) with
    | .ok .non _ st' => Res.ok (pv (.ref s.length)) e st'
    | _ => .stuck) = mkR s.length (C f (.ref s.length :: ds) (s ++ [.ins c al []])) e
  unfold mkR
  cases C f (.ref s.length :: ds) (s ++ [.ins c al []]) with
  | ok d fr st' => cases d <;> rfl
  | err x st' => rfl
  | stuck => rfl
@[simp] theorem os_nil : evalOs C [] env st = .ok [] env st := (rfl)
/-- an operand that is no borrowed name -/
theorem os_cons {e : E} (h : e.notBor = true) (es : List E) : evalOs C (e :: es) env st = Res.bind (evalE C e env st) (kOs C es) := by
  have z : evalOs C (e :: es) = M.bind (evalE C e) fun r => M.bind (evalOs C es) fun ds => M.ret (r.1 :: ds) := by cases e <;> first | rfl | cases h
  rw [z]
  exact bind_to fun r e s => bind_to fun _ _ _ => rfl
@[simp] theorem os_bor (i : Nat) (es : List E) : evalOs C (.bor i :: es) env st = Res.bind (rdBor i env st) (kB1 C i es) := bind_to fun d e s => bind_to fun ds e s => bind_to fun _ _ _ => rfl
@[simp] theorem os_var (i : Nat) (es : List E) : evalOs C (.var i :: es) env st = Res.bind (evalE C (.var i) env st) (kOs C es) := os_cons rfl es
@[simp] theorem os_con (d : D) (es : List E) : evalOs C (.con d :: es) env st = Res.bind (evalOs C es env st) (kCons d) := os_cons (e := .con d) rfl es
@[simp] theorem os_tup (a : List E) (es : List E) : evalOs C (.tup a :: es) env st = Res.bind (evalE C (.tup a) env st) (kOs C es) := os_cons rfl es
@[simp] theorem os_lst (a : List E) (es : List E) : evalOs C (.lst a :: es) env st = Res.bind (evalE C (.lst a) env st) (kOs C es) := os_cons rfl es
@[simp] theorem os_prim (p : P) (a : List E) (es : List E) : evalOs C (.prim p a :: es) env st = Res.bind (evalE C (.prim p a) env st) (kOs C es) := os_cons rfl es
@[simp] theorem os_not (a : E) (es : List E) : evalOs C (.not a :: es) env st = Res.bind (evalE C (.not a) env st) (kOs C es) := os_cons rfl es
@[simp] theorem os_and (a b : E) (es : List E) : evalOs C (.and a b :: es) env st = Res.bind (evalE C (.and a b) env st) (kOs C es) := os_cons rfl es
@[simp] theorem os_or (a b : E) (es : List E) : evalOs C (.or a b :: es) env st = Res.bind (evalE C (.or a b) env st) (kOs C es) := os_cons rfl es
@[simp] theorem os_ite (a b c : E) (es : List E) : evalOs C (.ite a b c :: es) env st = Res.bind (evalE C (.ite a b c) env st) (kOs C es) := os_cons rfl es
@[simp] theorem os_call (f : Nat) (a : List E) (es : List E) : evalOs C (.call f a :: es) env st = Res.bind (evalE C (.call f a) env st) (kOs C es) := os_cons rfl es
@[simp] theorem os_lc (own : List Nat) (t : Tg) (k : IK) (a : List E) (ifs : List E) (y : E) (es : List E) : evalOs C (.lc own t k a ifs y :: es) env st = Res.bind (evalE C (.lc own t k a ifs y) env st) (kOs C es) := os_cons rfl es
@[simp] theorem os_pop (i : Nat) (es : List E) : evalOs C (.pop i :: es) env st = Res.bind (evalE C (.pop i) env st) (kOs C es) := os_cons rfl es
@[simp] theorem os_chain (p q : P) (a b c : E) (es : List E) : evalOs C (.chain p q a b c :: es) env st = Res.bind (evalE C (.chain p q a b c) env st) (kOs C es) := os_cons rfl es
/-- a comprehension -/
@[simp] theorem e_lc (own : List Nat) (t : Tg) (k : IK) (os ifs : List E) (y : E) : evalE C (.lc own t k os ifs y) env st = Res.bind (evalOs C os env st) (kL0 C own t k ifs y) := bind_to fun ds e s => by
  refine (bind_to (k := kL1 C own t ifs y) fun xs e s => bind_to fun _ _ _ => rfl).trans ?_
  rw [opt_eq]; rfl
end
/-! ### statements -/
section
variable (C : CallF) (sub : Nat → Nat → Option Bool) (N : Nat)
def kS (ss : List S) : Fl → EnvI → Sto → Res Fl := fun f e s => flN f (evalSs C sub N ss) e s
def kNx {α : Type} : α → EnvI → Sto → Res Fl := fun _ e s => .ok .nx e s
def kA (t : Tg) : R → EnvI → Sto → Res Fl := fun r e s => Res.bind (setTg t r e s) kNx
def kI (a b : List S) : R → EnvI → Sto → Res Fl := fun r e s => onB (asB r.1) (evalSs C sub N a) (evalSs C sub N b) e s
def kR : R → EnvI → Sto → Res Fl := fun r e s => .ok (.ret r.1 r.2) e s
def kRc (r : R) : List R → EnvI → Sto → Res (List R) := fun rs e s => .ok (r :: rs) e s
def kRs (es : List E) : R → EnvI → Sto → Res (List R) := fun r e s => Res.bind (evalRs C es e s) (kRc r)
def kP (is : List Nat) : List R → EnvI → Sto → Res Fl := fun rs e s => match setSlotsR is rs e with | some e' => .ok .nx e' s | none => .stuck
def kG3 (i : Nat) : D → EnvI → Sto → Res Fl := fun z e s => Res.bind (setTg (.name i) (pv z) e s) kNx
def kG2 (i : Nat) (x : D) : R → EnvI → Sto → Res Fl := fun r e s => Res.bind (opR (aug2 x r.1) e s) (kG3 i)
def kG1 (i : Nat) (y : E) : D → EnvI → Sto → Res Fl := fun x e s => Res.bind (evalE C y e s) (kG2 i x)
/-- x[k] = v by the slot -/
def setIxR (i : Nat) (v j : D) (e : EnvI) (s : Sto) : Res Fl := setIxM i v j e s
def kQ7 (j : Nat) (v : D) : R → EnvI → Sto → Res Fl := fun y e s => setIxR j v y.1 e s
def kQ6 (j : Nat) (l : E) (v : D) : D → EnvI → Sto → Res Fl := fun _ e s => Res.bind (evalE C l e s) (kQ7 j v)
def kQ5 (j : Nat) (l : E) (v : D) : Fl → EnvI → Sto → Res Fl := fun _ e s => Res.bind (rdBor j e s) (kQ6 C j l v)
def kQ4 (i j : Nat) (l : E) (u v : D) : R → EnvI → Sto → Res Fl := fun x e s => Res.bind (setIxR i u x.1 e s) (kQ5 C j l v)
def kQ3 (i : Nat) (k : E) (j : Nat) (l : E) (u v : D) : D → EnvI → Sto → Res Fl := fun _ e s => Res.bind (evalE C k e s) (kQ4 C i j l u v)
def kQ2 (i : Nat) (k : E) (j : Nat) (l : E) (u : D) : R → EnvI → Sto → Res Fl := fun v e s => Res.bind (rdBor i e s) (kQ3 C i k j l u v.1)
def kQ1 (i : Nat) (k : E) (j : Nat) (l b : E) : R → EnvI → Sto → Res Fl := fun u e s => Res.bind (evalE C b e s) (kQ2 C i k j l u.1)
def kSF (f : Str) (v : D) : List D → EnvI → Sto → Res Fl := fun os e s => setFM f v os e s
def kSE (o : E) (f : Str) : R → EnvI → Sto → Res Fl := fun v e s => Res.bind (evalOs C [o] e s) (kSF f v.1)
def kAF4 (f : Str) (c : Str) (os : List D) : D → EnvI → Sto → Res Fl := fun z e s => setFC f z c os e s
def kAF3 (f : Str) (x : D × Str) (os : List D) : R → EnvI → Sto → Res Fl := fun v e s => Res.bind (opR (aug2 x.1 v.1) e s) (kAF4 f x.2 os)
def kAF2 (f : Str) (y : E) (os : List D) : D × Str → EnvI → Sto → Res Fl := fun x e s => Res.bind (evalE C y e s) (kAF3 f x os)
def kAF1 (f : Str) (y : E) : List D → EnvI → Sto → Res Fl := fun os e s => Res.bind (fldM f os e s) (kAF2 C f y os)
def kX3 (i : Nat) (v : D) : R → EnvI → Sto → Res Fl := fun j e s => setIxR i v j.1 e s
def kX2 (i : Nat) (k : E) (v : D) : D → EnvI → Sto → Res Fl := fun _ e s => Res.bind (evalE C k e s) (kX3 i v)
def kX1 (i : Nat) (k : E) : R → EnvI → Sto → Res Fl := fun v e s => Res.bind (rdBor i e s) (kX2 C i k v.1)
def stp (t : Tg) (body : List S) : D → M Fl := fun x => M.bind (setTg t (pv x)) fun _ => evalSs C sub N body
def kF2 (t : Tg) (body : List S) : List D → EnvI → Sto → Res Fl := fun xs e s => forGo (stp C sub N t body) xs e s
def kF1 (t : Tg) (k : IK) (body : List S) : List D → EnvI → Sto → Res Fl := fun ds e s => Res.bind (opR (itemsD k ds) e s) (kF2 C sub N t body)
def kBody (body : List S) : Unit → EnvI → Sto → Res Fl := fun _ e s => evalSs C sub N body e s
def flF (f : Fl) (m : M Fl) (e : EnvI) (s : Sto) : Res Fl := match f with
  | .nx => m e s
  | .ct => m e s
  | .brk => .ok .nx e s
  | .ret d fr => .ok (.ret d fr) e s
def kFl (m : M Fl) : Fl → EnvI → Sto → Res Fl := fun f e s => flF f m e s
/-- a while that has n turns left -/
def whl (c : E) (body : List S) (n : Nat) : M Fl := whileGo (M.bind (evalE C c) fun r => M.opt (asB r.1)) (evalSs C sub N body) n
def kW2 (c : E) (body : List S) (n : Nat) : EnvI → Sto → Res Fl := fun e s => Res.bind (evalSs C sub N body e s) (kFl (whl C sub N c body n))
def kW1 (c : E) (body : List S) (n : Nat) : R → EnvI → Sto → Res Fl := fun r e s => onB (asB r.1) (kW2 C sub N c body n) (kNx ()) e s
def appR (i : Nat) (r : D) (e : EnvI) (s : Sto) : Res Fl := match e[i]? with
  | some (.own ds) => if ds.length < 16777216 then .ok .nx (e.set i (.own (ds ++ [r]))) s else .stuck
  | _ => .stuck
def kAp (i : Nat) : R → EnvI → Sto → Res Fl := fun r e s => appR i r.1 e s
def extR (i : Nat) (r : D) (e : EnvI) (s : Sto) : Res Fl := match e[i]?, r with
  | some (.own ds), .lst xs => if lineOk (ds.length + xs.length) then .ok .nx (e.set i (.own (ds ++ xs))) s else .stuck
  | _, _ => .stuck
def kEx (i : Nat) : R → EnvI → Sto → Res Fl := fun r e s => extR i r.1 e s
end
section
variable {C : CallF} {sub : Nat → Nat → Option Bool} {N : Nat} {env e : EnvI} {st s : Sto}
@[simp] theorem kS_ (ss : List S) (f : Fl) : kS C sub N ss f e s = flN f (evalSs C sub N ss) e s := (rfl)
@[simp] theorem kNx_ {α : Type} (a : α) : kNx a e s = .ok .nx e s := (rfl)
@[simp] theorem kA_ (t : Tg) (r : R) : kA t r e s = Res.bind (setTg t r e s) kNx := (rfl)
@[simp] theorem kI_ (a b : List S) (r : R) : kI C sub N a b r e s = onB (asB r.1) (evalSs C sub N a) (evalSs C sub N b) e s := (rfl)
@[simp] theorem kR_ (r : R) : kR r e s = .ok (.ret r.1 r.2) e s := (rfl)
@[simp] theorem kRc_ (r : R) (rs : List R) : kRc r rs e s = .ok (r :: rs) e s := (rfl)
@[simp] theorem kRs_ (es : List E) (r : R) : kRs C es r e s = Res.bind (evalRs C es e s) (kRc r) := (rfl)
@[simp] theorem rs_nil : evalRs C [] env st = .ok [] env st := (rfl)
@[simp] theorem rs_cons (y : E) (es : List E) : evalRs C (y :: es) env st = Res.bind (evalE C y env st) (kRs C es) := bind_to fun r e s => bind_to fun _ _ _ => rfl
def kPo (o : Option EnvI) (s : Sto) : Res Fl := match o with | some e' => .ok .nx e' s | none => .stuck
@[simp] theorem kPo_s (e : EnvI) : kPo (some e) s = .ok .nx e s := (rfl)
@[simp] theorem kP_ (is : List Nat) (rs : List R) : kP is rs e s = kPo (setSlotsR is rs e) s := by
  unfold kP kPo
  cases setSlotsR is rs e <;> rfl
@[simp] theorem setSlotsR_n : setSlotsR [] [] e = some e := (rfl)
@[simp] theorem setSlotsR_c (i : Nat) (is : List Nat) (r : R) (rs : List R) : setSlotsR (i :: is) (r :: rs) e = if i < e.length then setSlotsR is rs (e.set i (slotOf r)) else none := (rfl)
@[simp] theorem kQ7_ (j : Nat) (v : D) (y : R) : kQ7 j v y e s = setIxR j v y.1 e s := (rfl)
@[simp] theorem kQ6_ (j : Nat) (l : E) (v d : D) : kQ6 C j l v d e s = Res.bind (evalE C l e s) (kQ7 j v) := (rfl)
@[simp] theorem kQ5_ (j : Nat) (l : E) (v : D) (f : Fl) : kQ5 C j l v f e s = Res.bind (rdBor j e s) (kQ6 C j l v) := (rfl)
@[simp] theorem kQ4_ (i j : Nat) (l : E) (u v : D) (x : R) : kQ4 C i j l u v x e s = Res.bind (setIxR i u x.1 e s) (kQ5 C j l v) := (rfl)
@[simp] theorem kQ3_ (i : Nat) (k : E) (j : Nat) (l : E) (u v d : D) : kQ3 C i k j l u v d e s = Res.bind (evalE C k e s) (kQ4 C i j l u v) := (rfl)
@[simp] theorem kQ2_ (i : Nat) (k : E) (j : Nat) (l : E) (u : D) (v : R) : kQ2 C i k j l u v e s = Res.bind (rdBor i e s) (kQ3 C i k j l u v.1) := (rfl)
@[simp] theorem kQ1_ (i : Nat) (k : E) (j : Nat) (l b : E) (u : R) : kQ1 C i k j l b u e s = Res.bind (evalE C b e s) (kQ2 C i k j l u.1) := (rfl)
@[simp] theorem kSF_ (f : Str) (v : D) (os : List D) : kSF f v os e s = setFM f v os e s := (rfl)
@[simp] theorem kSE_ (o : E) (f : Str) (v : R) : kSE C o f v e s = Res.bind (evalOs C [o] e s) (kSF f v.1) := (rfl)
@[simp] theorem kAF4_ (f c : Str) (os : List D) (z : D) : kAF4 f c os z e s = setFC f z c os e s := (rfl)
@[simp] theorem kAF3_ (f : Str) (x : D × Str) (os : List D) (v : R) : kAF3 f x os v e s = Res.bind (opR (aug2 x.1 v.1) e s) (kAF4 f x.2 os) := (rfl)
@[simp] theorem kAF2_ (f : Str) (y : E) (os : List D) (x : D × Str) : kAF2 C f y os x e s = Res.bind (evalE C y e s) (kAF3 f x os) := (rfl)
@[simp] theorem kAF1_ (f : Str) (y : E) (os : List D) : kAF1 C f y os e s = Res.bind (fldM f os e s) (kAF2 C f y os) := (rfl)
@[simp] theorem kG3_ (i : Nat) (z : D) : kG3 i z e s = Res.bind (setTg (.name i) (pv z) e s) kNx := (rfl)
@[simp] theorem kG2_ (i : Nat) (x : D) (r : R) : kG2 i x r e s = Res.bind (opR (aug2 x r.1) e s) (kG3 i) := (rfl)
@[simp] theorem kG1_ (i : Nat) (y : E) (x : D) : kG1 C i y x e s = Res.bind (evalE C y e s) (kG2 i x) := (rfl)
@[simp] theorem kX3_ (i : Nat) (v : D) (j : R) : kX3 i v j e s = setIxR i v j.1 e s := (rfl)
@[simp] theorem kX2_ (i : Nat) (k : E) (v d : D) : kX2 C i k v d e s = Res.bind (evalE C k e s) (kX3 i v) := (rfl)
@[simp] theorem kX1_ (i : Nat) (k : E) (v : R) : kX1 C i k v e s = Res.bind (rdBor i e s) (kX2 C i k v.1) := (rfl)
@[simp] theorem kF2_ (t : Tg) (body : List S) (xs : List D) : kF2 C sub N t body xs e s = forGo (stp C sub N t body) xs e s := (rfl)
@[simp] theorem kF1_ (t : Tg) (k : IK) (body : List S) (ds : List D) : kF1 C sub N t k body ds e s = Res.bind (opR (itemsD k ds) e s) (kF2 C sub N t body) := (rfl)
@[simp] theorem kBody_ (body : List S) (u : Unit) : kBody C sub N body u e s = evalSs C sub N body e s := (rfl)
@[simp] theorem kFl_ (m : M Fl) (f : Fl) : kFl m f e s = flF f m e s := (rfl)
@[simp] theorem flF_nx (m : M Fl) : flF .nx m e s = m e s := (rfl)
@[simp] theorem flF_ct (m : M Fl) : flF .ct m e s = m e s := (rfl)
@[simp] theorem flF_brk (m : M Fl) : flF .brk m e s = .ok .nx e s := (rfl)
@[simp] theorem flF_ret (m : M Fl) (d : D) (fr : Bool) : flF (.ret d fr) m e s = .ok (.ret d fr) e s := (rfl)
@[simp] theorem kW2_ (c : E) (body : List S) (n : Nat) : kW2 C sub N c body n e s = Res.bind (evalSs C sub N body e s) (kFl (whl C sub N c body n)) := (rfl)
@[simp] theorem kW1_ (c : E) (body : List S) (n : Nat) (r : R) : kW1 C sub N c body n r e s = onB (asB r.1) (kW2 C sub N c body n) (kNx ()) e s := (rfl)
@[simp] theorem kAp_ (i : Nat) (r : R) : kAp i r e s = appR i r.1 e s := (rfl)
@[simp] theorem kEx_ (i : Nat) (r : R) : kEx i r e s = extR i r.1 e s := (rfl)
@[simp] theorem ss_nil : evalSs C sub N [] env st = .ok .nx env st := (rfl)
@[simp] theorem ss_cons (s : S) (ss : List S) : evalSs C sub N (s :: ss) env st = Res.bind (evalS C sub N s env st) (kS C sub N ss) := bind_to fun f e t => by cases f <;> rfl
@[simp] theorem s_pass : evalS C sub N .pass env st = .ok .nx env st := (rfl)
@[simp] theorem s_brk : evalS C sub N .brk env st = .ok .brk env st := (rfl)
@[simp] theorem s_ct : evalS C sub N .ct env st = .ok .ct env st := (rfl)
@[simp] theorem s_retN : evalS C sub N .retN env st = .ok (.ret .non false) env st := (rfl)
@[simp] theorem s_expr (e : E) : evalS C sub N (.expr e) env st = Res.bind (evalE C e env st) kNx := bind_to fun _ _ _ => rfl
@[simp] theorem s_asg (t : Tg) (e : E) : evalS C sub N (.asg t e) env st = Res.bind (evalE C e env st) (kA t) := bind_to fun r e s => bind_to fun _ _ _ => rfl
@[simp] theorem s_ite (c : E) (a b : List S) : evalS C sub N (.ite c a b) env st = Res.bind (evalE C c env st) (kI C sub N a b) := bind_to fun _ _ _ => on_to
theorem retOf_eq {e : E} (h : ∀ i, e ≠ .var i) : evalS C sub N (.ret e) env st = Res.bind (evalE C e env st) kR := by
  show retOf C e env st = _
  have z : retOf C e = M.bind (evalE C e) fun r => M.ret (.ret r.1 r.2) := by cases e <;> first | rfl | exact absurd rfl (h _)
  rw [z]
  exact bind_to fun _ _ _ => rfl
def retV (i : Nat) (env : EnvI) (st : Sto) : Res Fl := match env[i]? with
    | some (.val d) => .ok (.ret d false) env st
    | some (.own ds) => .ok (.ret (.lst ds) true) env st
    | _ => .stuck
@[simp] theorem s_ret_var (i : Nat) : evalS C sub N (.ret (.var i)) env st = retV i env st := (rfl)
@[simp] theorem s_ret_con (d : D) : evalS C sub N (.ret (.con d)) env st = .ok (.ret d false) env st := (rfl)
@[simp] theorem s_ret_tup (es : List E) : evalS C sub N (.ret (.tup es)) env st = Res.bind (evalE C (.tup es) env st) kR := retOf_eq fun _ z => by cases z
@[simp] theorem s_ret_lst (es : List E) : evalS C sub N (.ret (.lst es)) env st = Res.bind (evalE C (.lst es) env st) kR := retOf_eq fun _ z => by cases z
@[simp] theorem s_ret_box (es : List E) : evalS C sub N (.ret (.box es)) env st = Res.bind (evalE C (.box es) env st) kR := retOf_eq fun _ z => by cases z
@[simp] theorem s_ret_prim (p : P) (es : List E) : evalS C sub N (.ret (.prim p es)) env st = Res.bind (evalE C (.prim p es) env st) kR := retOf_eq fun _ z => by cases z
@[simp] theorem s_ret_not (a : E) : evalS C sub N (.ret (.not a)) env st = Res.bind (evalE C (.not a) env st) kR := retOf_eq fun _ z => by cases z
@[simp] theorem s_ret_and (a b : E) : evalS C sub N (.ret (.and a b)) env st = Res.bind (evalE C (.and a b) env st) kR := retOf_eq fun _ z => by cases z
@[simp] theorem s_ret_or (a b : E) : evalS C sub N (.ret (.or a b)) env st = Res.bind (evalE C (.or a b) env st) kR := retOf_eq fun _ z => by cases z
@[simp] theorem s_ret_ite (a b c : E) : evalS C sub N (.ret (.ite a b c)) env st = Res.bind (evalE C (.ite a b c) env st) kR := retOf_eq fun _ z => by cases z
@[simp] theorem s_ret_call (f : Nat) (es : List E) : evalS C sub N (.ret (.call f es)) env st = Res.bind (evalE C (.call f es) env st) kR := retOf_eq fun _ z => by cases z
@[simp] theorem s_ret_lc (own : List Nat) (t : Tg) (k : IK) (os ifs : List E) (y : E) : evalS C sub N (.ret (.lc own t k os ifs y)) env st = Res.bind (evalE C (.lc own t k os ifs y) env st) kR := retOf_eq fun _ z => by cases z
@[simp] theorem s_ret_chain (p q : P) (a b c : E) : evalS C sub N (.ret (.chain p q a b c)) env st = Res.bind (evalE C (.chain p q a b c) env st) kR := retOf_eq fun _ z => by cases z
@[simp] theorem s_ret_chain3 (p q r : P) (a b c d : E) : evalS C sub N (.ret (.chain3 p q r a b c d)) env st = Res.bind (evalE C (.chain3 p q r a b c d) env st) kR := retOf_eq fun _ z => by cases z
@[simp] theorem s_par (is : List Nat) (es : List E) : evalS C sub N (.par is es) env st = Res.bind (evalRs C es env st) (kP is) := bind_to fun _ _ _ => rfl
@[simp] theorem s_parIx (i : Nat) (k : E) (j : Nat) (l a b : E) : evalS C sub N (.parIx i k j l a b) env st = Res.bind (evalE C a env st) (kQ1 C i k j l b) := bind_to fun u e s => bind_to fun v e s => bind_to fun _ e s => bind_to fun x e s => bind_to fun _ e s => bind_to fun _ e s => bind_to fun _ _ _ => rfl
@[simp] theorem s_setF (o : E) (f : Str) (y : E) : evalS C sub N (.setF o f y) env st = Res.bind (evalE C y env st) (kSE C o f) := bind_to fun v e s => bind_to fun _ _ _ => rfl
@[simp] theorem s_augF (o : E) (f : Str) (y : E) : evalS C sub N (.augF o f y) env st = Res.bind (evalOs C [o] env st) (kAF1 C f y) := bind_to fun os e s => bind_to fun x e s => bind_to fun v e s => by
  refine (bind_to (k := kAF4 f x.2 os) fun z e s => rfl).trans ?_
  rw [opt_eq]; rfl
@[simp] theorem s_ret_meth (m : Str) (cs : List (Str × Nat)) (o es : List E) : evalS C sub N (.ret (.meth m cs o es)) env st = Res.bind (evalE C (.meth m cs o es) env st) kR := retOf_eq fun _ z => by cases z
@[simp] theorem s_ret_make (c : Str) (al : List Str) (f : Nat) (es : List E) : evalS C sub N (.ret (.make c al f es)) env st = Res.bind (evalE C (.make c al f es) env st) kR := retOf_eq fun _ z => by cases z
@[simp] theorem s_aug (i : Nat) (y : E) : evalS C sub N (.aug i y) env st = Res.bind (rdBor i env st) (kG1 C i y) := bind_to fun x e s => bind_to fun r e s => by
  refine (bind_to (k := kG3 i) fun z e s => bind_to fun _ _ _ => rfl).trans ?_
  rw [opt_eq]; rfl
@[simp] theorem s_setIx (i : Nat) (k y : E) : evalS C sub N (.setIx i k y) env st = Res.bind (evalE C y env st) (kX1 C i k) := bind_to fun v e s => bind_to fun u e s => bind_to fun _ _ _ => rfl
@[simp] theorem s_for (t : Tg) (k : IK) (os : List E) (body : List S) : evalS C sub N (.for t k os body) env st = Res.bind (evalOs C os env st) (kF1 C sub N t k body) := bind_to fun ds e s => by
  refine (bind_to (k := kF2 C sub N t body) fun _ _ _ => rfl).trans ?_
  rw [opt_eq]; rfl
@[simp] theorem stp_ (t : Tg) (body : List S) (x : D) : stp C sub N t body x env st = Res.bind (setTg t (pv x) env st) (kBody C sub N body) := bind_to fun _ _ _ => rfl
@[simp] theorem for_nil (step : D → M Fl) : forGo step [] env st = .ok .nx env st := (rfl)
theorem for_cons (step : D → M Fl) (x : D) (xs : List D) : forGo step (x :: xs) env st = Res.bind (step x env st) (kFl (forGo step xs)) := bind_to fun f e s => by cases f <;> rfl
@[simp] theorem s_while (c : E) (body : List S) : evalS C sub N (.while c body) env st = whl C sub N c body N env st := (rfl)
theorem whl_succ (c : E) (body : List S) (n : Nat) : whl C sub N c body (n + 1) env st = Res.bind (evalE C c env st) (kW1 C sub N c body n) := by
  show M.bind (M.bind (evalE C c) fun r => M.opt (asB r.1)) (fun b => if b then M.bind (evalSs C sub N body) fun f => (match f with
    | .nx => whileGo (M.bind (evalE C c) fun r => M.opt (asB r.1)) (evalSs C sub N body) n
    | .ct => whileGo (M.bind (evalE C c) fun r => M.opt (asB r.1)) (evalSs C sub N body) n
    | .brk => M.ret .nx
    | .ret d fr => M.ret (.ret d fr)) else M.ret .nx) env st = _
  rw [M.assoc]
  refine bind_to fun r e s => ?_
  rw [kW1_]
  cases asB r.1 with
  | none => rfl
  | some c =>
    cases c
    · rfl
    · show M.bind (evalSs C sub N body) (fun f => (match f with
        | .nx => whileGo (M.bind (evalE C _) fun r => M.opt (asB r.1)) (evalSs C sub N body) n
        | .ct => whileGo (M.bind (evalE C _) fun r => M.opt (asB r.1)) (evalSs C sub N body) n
        | .brk => M.ret .nx
        | .ret d fr => M.ret (.ret d fr))) e s = _
      exact bind_to fun f e s => by cases f <;> rfl
@[simp] theorem s_app (i : Nat) (y : E) (ds : List D) (h : env[i]? = some (.own ds)) : evalS C sub N (.app i y) env st = Res.bind (evalE C y env st) (kAp i) := by
  show (match env[i]? with
    | some (.own _) => M.bind (evalE C y) (fun r env st => match env[i]? with
      | some (.own ds) => if ds.length < 16777216 then Res.ok Fl.nx (env.set i (.own (ds ++ [r.1]))) st else .stuck
      | _ => .stuck) env st
    | _ => .stuck) = _
  rw [h]
  exact bind_to fun _ _ _ => rfl
@[simp] theorem s_ext (i : Nat) (y : E) (ds : List D) (h : env[i]? = some (.own ds)) : evalS C sub N (.ext i y) env st = Res.bind (evalE C y env st) (kEx i) := by
  show (match env[i]? with
    | some (.own _) => M.bind (evalE C y) (fun r env st => match env[i]?, r.1 with
      | some (.own ds), .lst xs => if lineOk (ds.length + xs.length) then Res.ok Fl.nx (env.set i (.own (ds ++ xs))) st else .stuck
      | _, _ => .stuck) env st
    | _ => .stuck) = _
  rw [h]
  exact bind_to fun _ _ _ => rfl
end
/-! ### functions -/
/-- the answer of a body -/
def fin (r : Res Fl) : CRes := match r with
  | .ok .nx _ s => .ok .non false s
  | .ok (.ret d fr) _ s => .ok d fr s
  | .err x _ s => .err x s
  | _ => .stuck
@[simp] theorem fin_nx (e : EnvI) (s : Sto) : fin (.ok .nx e s) = .ok .non false s := (rfl)
@[simp] theorem fin_ret (d : D) (fr : Bool) (e : EnvI) (s : Sto) : fin (.ok (.ret d fr) e s) = .ok d fr s := (rfl)
@[simp] theorem fin_err (x : Exc) (e : EnvI) (s : Sto) : fin (.err x e s) = .err x s := (rfl)
theorem runF_eq {C : CallF} {T : Tab} {N : Nat} {d : FDef} (ds : List D) (hl : ds.length = d.np) (st : Sto) : runF C T N d ds st = fin (evalSs C T.sub N d.body (startI d ds) st) := by
  unfold runF
  rw [if_pos hl]
  cases evalSs C T.sub N d.body (startI d ds) st with
  | ok f e s => cases f <;> rfl
  | err x e s => rfl
  | stuck => rfl
theorem call_eq {T : Tab} {N k f : Nat} {d : FDef} (h : T.fns.lookup f = some d) (hk : 0 < k) (ds : List D) (hl : ds.length = d.np) (st : Sto) (hi : d.ini = false := by rfl) :
    callN T N k f ds st = fin (evalSs (callN T N (k - 1)) T.sub N d.body (startI d ds) st) := by
  match k, hk with
  | 1, _ =>
    show (match T.fns.lookup f with | some d => if d.ini then CRes.stuck else runF (callN T N 0) T N d ds st | none => .stuck) = _
    rw [h]
    dsimp only
    rw [hi, if_neg Bool.false_ne_true]
    exact runF_eq ds hl st
  | k + 2, _ =>
    show (match T.fns.lookup f with | some d => if d.ini then runF (callN T N k) T N d ds st else runF (callN T N (k + 1)) T N d ds st | none => .stuck) = _
    rw [h]
    dsimp only
    rw [hi, if_neg Bool.false_ne_true]
    exact runF_eq ds hl st
/-- an __init__ -/
theorem call_ini {T : Tab} {N k f : Nat} {d : FDef} (h : T.fns.lookup f = some d) (hk : 1 < k) (ds : List D) (hl : ds.length = d.np) (st : Sto) (hi : d.ini = true := by rfl) :
    callN T N k f ds st = fin (evalSs (callN T N (k - 2)) T.sub N d.body (startI d ds) st) := by
  match k, hk with
  | k + 2, _ =>
    show (match T.fns.lookup f with | some d => if d.ini then runF (callN T N k) T N d ds st else runF (callN T N (k + 1)) T N d ds st | none => .stuck) = _
    rw [h]
    dsimp only
    rw [hi, if_pos rfl]
    exact runF_eq ds hl st
end IP

set_option Elab.async false
set_option linter.all false
set_option maxRecDepth 100000
namespace IP
open PySem
/-! ### slots -/
def rdQ (i : Nat) (o : Option Slot) (e : EnvI) (s : Sto) : Res D := match o with
  | some (.val d) => .ok d e s
  | some (.own ds) => .ok (.lst ds) (e.set i (.val (.lst ds))) s
  | _ => .stuck
def boQ (o : Option Slot) (e : EnvI) (s : Sto) : Res D := match o with
  | some (.val d) => .ok d e s
  | some (.own ds) => .ok (.lst ds) e s
  | _ => .stuck
def retQ (o : Option Slot) (e : EnvI) (s : Sto) : Res Fl := match o with
  | some (.val d) => .ok (.ret d false) e s
  | some (.own ds) => .ok (.ret (.lst ds) true) e s
  | _ => .stuck
def apQ (i : Nat) (r : D) (o : Option Slot) (e : EnvI) (s : Sto) : Res Fl := match o with
  | some (.own ds) => if ds.length < 16777216 then .ok .nx (e.set i (.own (ds ++ [r]))) s else .stuck
  | _ => .stuck
def exQ (i : Nat) (r : D) (o : Option Slot) (e : EnvI) (s : Sto) : Res Fl := match o, r with
  | some (.own ds), .lst xs => if lineOk (ds.length + xs.length) then .ok .nx (e.set i (.own (ds ++ xs))) s else .stuck
  | _, _ => .stuck
def stQ (b : Nat) (v : D) (j : Int) (o : Option Bx) (e : EnvI) (s : Sto) : Res Fl := match o with
  | some (.lst ds) => (match L2.ixN ds.length j with | some n => .ok .nx e (s.set b (.lst (ds.set n v))) | none => .stuck)
  | _ => .stuck
def ixQ (i : Nat) (v j : D) (o : Option Slot) (e : EnvI) (s : Sto) : Res Fl := match o, j with
  | some (.own ds), .int j => (match L2.ixN ds.length j with | some n => .ok .nx (e.set i (.own (ds.set n v))) s | none => .stuck)
  | some (.val (.ref b)), .int j => stQ b v j s[b]? e s
  | _, _ => .stuck
section
variable {e : EnvI} {s : Sto}
@[simp] theorem rdVar_ (i : Nat) : rdVar i e s = rdQ i e[i]? e s := by
  unfold rdVar rdQ
  cases e[i]? with
  | none => rfl
  | some o => cases o <;> rfl
@[simp] theorem rdBor_ (i : Nat) : rdBor i e s = boQ e[i]? e s := by
  unfold rdBor boQ
  cases e[i]? with
  | none => rfl
  | some o => cases o <;> rfl
@[simp] theorem retV_ (i : Nat) : retV i e s = retQ e[i]? e s := by
  unfold retV retQ
  cases e[i]? with
  | none => rfl
  | some o => cases o <;> rfl
@[simp] theorem appR_ (i : Nat) (r : D) : appR i r e s = apQ i r e[i]? e s := by
  unfold appR apQ
  cases e[i]? with
  | none => rfl
  | some o => cases o <;> rfl
@[simp] theorem extR_ (i : Nat) (r : D) : extR i r e s = exQ i r e[i]? e s := by
  unfold extR exQ
  cases e[i]? with
  | none => rfl
  | some o => cases o <;> cases r <;> rfl
@[simp] theorem setIxR_ (i : Nat) (v j : D) : setIxR i v j e s = ixQ i v j e[i]? e s := by
  unfold setIxR setIxM ixQ
  cases e[i]? with
  | none => rfl
  | some o => cases o with
    | none => rfl
    | own ds => cases j <;> rfl
    | val d => cases d <;> cases j <;> first | rfl | (rename_i b j; show (match lstB s[b]? with | some ds => (match L2.ixN ds.length j with | some n => Res.ok Fl.nx e (s.set b (.lst (ds.set n v))) | none => .stuck) | none => .stuck) = stQ b v j s[b]? e s; generalize s[b]? = o; cases o with | none => rfl | some x => cases x <;> rfl)
@[simp] theorem rdQ_v (i : Nat) (d : D) : rdQ i (some (.val d)) e s = .ok d e s := (rfl)
@[simp] theorem rdQ_o (i : Nat) (ds : List D) : rdQ i (some (.own ds)) e s = .ok (.lst ds) (e.set i (.val (.lst ds))) s := (rfl)
@[simp] theorem boQ_v (d : D) : boQ (some (.val d)) e s = .ok d e s := (rfl)
@[simp] theorem boQ_o (ds : List D) : boQ (some (.own ds)) e s = .ok (.lst ds) e s := (rfl)
@[simp] theorem retQ_v (d : D) : retQ (some (.val d)) e s = .ok (.ret d false) e s := (rfl)
@[simp] theorem retQ_o (ds : List D) : retQ (some (.own ds)) e s = .ok (.ret (.lst ds) true) e s := (rfl)
@[simp] theorem apQ_o (i : Nat) (r : D) (ds : List D) : apQ i r (some (.own ds)) e s = if ds.length < 16777216 then .ok .nx (e.set i (.own (ds ++ [r]))) s else .stuck := (rfl)
@[simp] theorem exQ_o (i : Nat) (ds xs : List D) : exQ i (.lst xs) (some (.own ds)) e s = if lineOk (ds.length + xs.length) then .ok .nx (e.set i (.own (ds ++ xs))) s else .stuck := (rfl)
def ixP (i : Nat) (v : D) (ds : List D) (o : Option Nat) (e : EnvI) (s : Sto) : Res Fl := match o with | some n => .ok .nx (e.set i (.own (ds.set n v))) s | none => .stuck
def stP (b : Nat) (v : D) (ds : List D) (o : Option Nat) (e : EnvI) (s : Sto) : Res Fl := match o with | some n => .ok .nx e (s.set b (.lst (ds.set n v))) | none => .stuck
@[simp] theorem ixQ_o (i : Nat) (v : D) (ds : List D) (j : Int) : ixQ i v (.int j) (some (.own ds)) e s = ixP i v ds (L2.ixN ds.length j) e s := by
  show (match L2.ixN ds.length j with | some n => Res.ok Fl.nx (e.set i (.own (ds.set n v))) s | none => .stuck) = _
  unfold ixP
  cases L2.ixN ds.length j <;> rfl
@[simp] theorem ixQ_r (i : Nat) (v : D) (b : Nat) (j : Int) : ixQ i v (.int j) (some (.val (.ref b))) e s = stQ b v j s[b]? e s := (rfl)
@[simp] theorem stQ_s (b : Nat) (v : D) (j : Int) (ds : List D) : stQ b v j (some (.lst ds)) e s = stP b v ds (L2.ixN ds.length j) e s := by
  show (match L2.ixN ds.length j with | some n => Res.ok Fl.nx e (s.set b (.lst (ds.set n v))) | none => .stuck) = _
  unfold stP
  cases L2.ixN ds.length j <;> rfl
@[simp] theorem ixP_s (i : Nat) (v : D) (ds : List D) (n : Nat) : ixP i v ds (some n) e s = .ok .nx (e.set i (.own (ds.set n v))) s := (rfl)
@[simp] theorem stP_s (b : Nat) (v : D) (ds : List D) (n : Nat) : stP b v ds (some n) e s = .ok .nx e (s.set b (.lst (ds.set n v))) := (rfl)
/-! ### instances -/
def methQ (m : Str) (cs : List (Str × Nat)) (k : Nat) (o : Option Bx) : Option (Nat × Nat) := match o with
  | some (.ins c al fs) => if (fs.lookup m).isNone then (cs.lookup c).map fun f => (k, f) else none
  | _ => none
def fldQ (f : Str) (o : Option Bx) : Option D := match o with
  | some (.ins c al fs) => fs.lookup f
  | _ => none
def sfQ (k : Nat) (f : Str) (v : D) (o : Option Bx) (e : EnvI) (s : Sto) : Res Fl := match o with
  | some (.ins c al fs) => if al.contains f && decide (fs.length < 900) then .ok .nx e (s.set k (.ins c al (putF f v fs))) else .stuck
  | _ => .stuck
@[simp] theorem methD_r (m : Str) (cs : List (Str × Nat)) (k : Nat) : methD s m cs [.ref k] = methQ m cs k s[k]? := by
  show ((insB s[k]?).bind fun z => if (z.2.2.lookup m).isNone then (cs.lookup z.1).map fun f => (k, f) else none) = _
  generalize s[k]? = o
  cases o with
  | none => rfl
  | some b => cases b <;> rfl
@[simp] theorem methQ_i (m : Str) (cs : List (Str × Nat)) (k : Nat) (c : Str) (al : List Str) (fs : List (Str × D)) : methQ m cs k (some (.ins c al fs)) = if (fs.lookup m).isNone then (cs.lookup c).map fun f => (k, f) else none := (rfl)
@[simp] theorem fldD_r (f : Str) (k : Nat) : fldD s f (.ref k) = fldQ f s[k]? := by
  show ((insB s[k]?).bind fun z => z.2.2.lookup f) = _
  generalize s[k]? = o
  cases o with
  | none => rfl
  | some b => cases b <;> rfl
@[simp] theorem fldQ_i (f c : Str) (al : List Str) (fs : List (Str × D)) : fldQ f (some (.ins c al fs)) = fs.lookup f := (rfl)
@[simp] theorem setFM_r (f : Str) (v : D) (k : Nat) : setFM f v [.ref k] e s = sfQ k f v s[k]? e s := by
  show (match (insB s[k]?).bind fun z => if z.2.1.contains f && decide (z.2.2.length < 900) then some (s.set k (.ins z.1 z.2.1 (putF f v z.2.2))) else none with | some st' => Res.ok Fl.nx e st' | none => .stuck) = _
  generalize s[k]? = o
  cases o with
  | none => rfl
  | some b =>
    cases b with
    | ins c al fs =>
      show (match (if al.contains f && decide (fs.length < 900) then some (s.set k (.ins c al (putF f v fs))) else none) with | some st' => Res.ok Fl.nx e st' | none => .stuck) = (if al.contains f && decide (fs.length < 900) then .ok .nx e (s.set k (.ins c al (putF f v fs))) else .stuck)
      cases al.contains f && decide (fs.length < 900) <;> rfl
    | _ => rfl
@[simp] theorem sfQ_i (k : Nat) (f : Str) (v : D) (c : Str) (al : List Str) (fs : List (Str × D)) : sfQ k f v (some (.ins c al fs)) e s = if al.contains f && decide (fs.length < 900) then .ok .nx e (s.set k (.ins c al (putF f v fs))) else .stuck := (rfl)
def fcQ (k : Nat) (f : Str) (v : D) (c0 : Str) (o : Option Bx) (e : EnvI) (s : Sto) : Res Fl := match o with
  | some (.ins c al fs) => if c = c0 then sfQ k f v (some (.ins c al fs)) e s else .stuck
  | _ => .stuck
@[simp] theorem setFC_r (f : Str) (v : D) (c0 : Str) (k : Nat) : setFC f v c0 [.ref k] e s = fcQ k f v c0 s[k]? e s := by
  have h : setFC f v c0 [.ref k] e s = if (insB s[k]?).map (fun z => z.1) = some c0 then setFM f v [.ref k] e s else .stuck := (rfl)
  rw [h, setFM_r]
  generalize s[k]? = o
  cases o with
  | none => rfl
  | some b =>
    cases b with
    | ins c al fs =>
      show (if some c = some c0 then sfQ k f v (some (.ins c al fs)) e s else .stuck) = (if c = c0 then sfQ k f v (some (.ins c al fs)) e s else .stuck)
      by_cases q : c = c0
      · rw [if_pos q, if_pos (by rw [q])]
      · rw [if_neg q, if_neg (fun z => q (Option.some.inj z))]
    | _ => rfl
@[simp] theorem fcQ_i (k : Nat) (f : Str) (v : D) (c0 c : Str) (al : List Str) (fs : List (Str × D)) : fcQ k f v c0 (some (.ins c al fs)) e s = if c = c0 then sfQ k f v (some (.ins c al fs)) e s else .stuck := (rfl)
def fmQ (f : Str) (o : Option Bx) (e : EnvI) (s : Sto) : Res (D × Str) := match o with
  | some (.ins c al fs) => opR ((fs.lookup f).map fun x => (x, c)) e s
  | _ => .stuck
@[simp] theorem fldM_r (f : Str) (k : Nat) : fldM f [.ref k] e s = fmQ f s[k]? e s := by
  show (match (insB s[k]?).bind (fun z => z.2.2.lookup f), (insB s[k]?).map (fun z => z.1) with | some x, some c => Res.ok (x, c) e s | _, _ => .stuck) = _
  generalize s[k]? = o
  cases o with
  | none => rfl
  | some b =>
    cases b with
    | ins c al fs =>
      show (match fs.lookup f, some c with | some x, some c => Res.ok (x, c) e s | _, _ => .stuck) = opR ((fs.lookup f).map fun x => (x, c)) e s
      cases fs.lookup f <;> rfl
    | _ => rfl
@[simp] theorem fmQ_i (f c : Str) (al : List Str) (fs : List (Str × D)) : fmQ f (some (.ins c al fs)) e s = opR ((fs.lookup f).map fun x => (x, c)) e s := (rfl)
@[simp] theorem putF_nil (f : Str) (d : D) : putF f d [] = [(f, d)] := (rfl)
@[simp] theorem putF_cons (f : Str) (d : D) (p : Str × D) (r : List (Str × D)) : putF f d (p :: r) = if p.1 = f then (f, d) :: r else p :: putF f d r := (rfl)

@[simp] theorem slotOf_pv (d : D) : slotOf (pv d) = .val d := by cases d <;> rfl
@[simp] theorem slotOf_f (d : D) : slotOf (d, false) = .val d := by cases d <;> rfl
@[simp] theorem slotOf_l (ds : List D) : slotOf (.lst ds, true) = .own ds := (rfl)
@[simp] theorem setTg_n (i : Nat) (r : R) : setTg (.name i) r e s = if i < e.length then .ok () (e.set i (slotOf r)) s else .stuck := (rfl)
def tgQ (o : Option EnvI) (s : Sto) : Res Unit := match o with | some e => .ok () e s | none => .stuck
@[simp] theorem tgQ_s (e : EnvI) : tgQ (some e) s = .ok () e s := (rfl)
@[simp] theorem setTg_t (is : List Nat) (ds : List D) (b : Bool) : setTg (.tup is) (.tup ds, b) e s = tgQ (setSlots is ds e) s := by
  show (match setSlots is ds e with | some env' => Res.ok () env' s | none => .stuck) = _
  unfold tgQ
  cases setSlots is ds e <;> rfl
@[simp] theorem setTg_l (is : List Nat) (ds : List D) (b : Bool) : setTg (.tup is) (.lst ds, b) e s = tgQ (setSlots is ds e) s := by
  show (match setSlots is ds e with | some env' => Res.ok () env' s | none => .stuck) = _
  unfold tgQ
  cases setSlots is ds e <;> rfl
@[simp] theorem setTg_lp (is : List Nat) (ds : List D) : setTg (.tup is) (pv (.lst ds)) e s = tgQ (setSlots is ds e) s := setTg_l is ds false
@[simp] theorem setTg_tp (is : List Nat) (ds : List D) : setTg (.tup is) (pv (.tup ds)) e s = tgQ (setSlots is ds e) s := setTg_t is ds false
@[simp] theorem setSlots_n : setSlots [] [] e = some e := (rfl)
@[simp] theorem setSlots_c (i : Nat) (is : List Nat) (d : D) (ds : List D) : setSlots (i :: is) (d :: ds) e = if i < e.length then setSlots is ds (e.set i (.val d)) else none := (rfl)
end
/-! ### the operations -/
section
variable {s : Sto}
theorem ixN_nat {n k : Nat} (h : k < n) : L2.ixN n (k : Int) = some k := by
  unfold L2.ixN
  rw [if_pos (by omega), if_pos (by omega)]
  rfl
theorem atD_nat (xs : List D) (k : Nat) : atD xs (k : Int) = xs[k]? := by
  unfold atD L2.atI L2.ixN
  rw [if_pos (by omega)]
  by_cases h : (k : Int) < xs.length
  · rw [if_pos h]; rfl
  · rw [if_neg h, List.getElem?_eq_none (by omega)]; rfl
@[simp] theorem atD_0 (xs : List D) : atD xs 0 = xs[0]? := atD_nat xs 0
@[simp] theorem atD_1 (xs : List D) : atD xs 1 = xs[1]? := atD_nat xs 1
@[simp] theorem atD_2 (xs : List D) : atD xs 2 = xs[2]? := atD_nat xs 2
@[simp] theorem atD_3 (xs : List D) : atD xs 3 = xs[3]? := atD_nat xs 3
@[simp] theorem atD_4 (xs : List D) : atD xs 4 = xs[4]? := atD_nat xs 4
@[simp] theorem atD_5 (xs : List D) : atD xs 5 = xs[5]? := atD_nat xs 5
@[simp] theorem atD_6 (xs : List D) : atD xs 6 = xs[6]? := atD_nat xs 6
@[simp] theorem atD_7 (xs : List D) : atD xs 7 = xs[7]? := atD_nat xs 7
@[simp] theorem atD_8 (xs : List D) : atD xs 8 = xs[8]? := atD_nat xs 8
@[simp] theorem atD_9 (xs : List D) : atD xs 9 = xs[9]? := atD_nat xs 9
@[simp] theorem atD_10 (xs : List D) : atD xs 10 = xs[10]? := atD_nat xs 10
@[simp] theorem atD_11 (xs : List D) : atD xs 11 = xs[11]? := atD_nat xs 11
@[simp] theorem atD_12 (xs : List D) : atD xs 12 = xs[12]? := atD_nat xs 12
@[simp] theorem atD_13 (xs : List D) : atD xs 13 = xs[13]? := atD_nat xs 13
@[simp] theorem atD_14 (xs : List D) : atD xs 14 = xs[14]? := atD_nat xs 14
@[simp] theorem atD_15 (xs : List D) : atD xs 15 = xs[15]? := atD_nat xs 15
@[simp] theorem p_add_i (i j : Int) : pfS s .add [.int i, .int j] = some (pv (.int (i + j))) := (rfl)
@[simp] theorem p_add_s (i j : Str) : pfS s .add [.str i, .str j] = gd (lineOk (i.length + j.length)) (pv (.str (i ++ j))) := (rfl)
@[simp] theorem p_add_t (i j : List D) : pfS s .add [.tup i, .tup j] = gd (lineOk (i.length + j.length)) (pv (.tup (i ++ j))) := (rfl)
@[simp] theorem p_add_l (i j : List D) : pfS s .add [.lst i, .lst j] = gd (lineOk (i.length + j.length)) (.lst (i ++ j), true) := (rfl)
@[simp] theorem p_sub (i j : Int) : pfS s .sub [.int i, .int j] = some (pv (.int (i - j))) := (rfl)
@[simp] theorem p_mul (i j : Int) : pfS s .mul [.int i, .int j] = gd (mulOk i j) (pv (.int (i * j))) := (rfl)
@[simp] theorem p_mul_l (i : List D) (j : Int) : pfS s .mul [.lst i, .int j] = gd (decide (-1000000 ≤ j) && decide (j ≤ 1000000) && lineOk (i.length * j.toNat)) (.lst (List.replicate j.toNat i).flatten, true) := (rfl)
@[simp] theorem p_mul_t (i : List D) (j : Int) : pfS s .mul [.tup i, .int j] = gd (decide (-1000 ≤ j) && decide (j ≤ 1000) && decide (i.length ≤ 1000)) (pv (.tup (List.replicate j.toNat i).flatten)) := (rfl)
@[simp] theorem p_fdiv (i j : Int) : pfS s .fdiv [.int i, .int j] = gd (divOk j) (pv (.int (i / j))) := (rfl)
@[simp] theorem p_mod (i j : Int) : pfS s .mod [.int i, .int j] = gd (decide (0 < j)) (pv (.int (i % j))) := (rfl)
@[simp] theorem p_pow (i j : Int) : pfS s .pow [.int i, .int j] = gd (powOk i j) (pv (.int (i ^ j.toNat))) := (rfl)
@[simp] theorem p_shl (i j : Int) : pfS s .shl [.int i, .int j] = gd (powOk i j) (pv (.int (i * 2 ^ j.toNat))) := (rfl)
@[simp] theorem p_shr (i j : Int) : pfS s .shr [.int i, .int j] = gd (decide (0 ≤ j)) (pv (.int (i / 2 ^ j.toNat))) := (rfl)
@[simp] theorem p_band (i j : Int) : pfS s .band [.int i, .int j] = some (pv (.int (Builtin.bitAnd i j))) := (rfl)
@[simp] theorem p_bor (i j : Int) : pfS s .bor [.int i, .int j] = some (pv (.int (Builtin.bitOr i j))) := (rfl)
@[simp] theorem p_bxor (i j : Int) : pfS s .bxor [.int i, .int j] = some (pv (.int (Builtin.bitXor i j))) := (rfl)
@[simp] theorem p_eq (x y : D) : pfS s .eq [x, y] = (eqD x y).map fun b => pv (.bl b) := (rfl)
@[simp] theorem p_ne (x y : D) : pfS s .ne [x, y] = (eqD x y).map fun b => pv (.bl (!b)) := (rfl)
@[simp] theorem eqD_i (i j : Int) : eqD (.int i) (.int j) = some (i == j) := (rfl)
@[simp] theorem eqD_s (i j : Str) : eqD (.str i) (.str j) = some (i == j) := (rfl)
@[simp] theorem eqD_b (i j : Bool) : eqD (.bl i) (.bl j) = some (i == j) := (rfl)
@[simp] theorem p_lt (i j : Int) : pfS s .lt [.int i, .int j] = some (pv (.bl (decide (i < j)))) := (rfl)
@[simp] theorem p_le (i j : Int) : pfS s .le [.int i, .int j] = some (pv (.bl (decide (i ≤ j)))) := (rfl)
@[simp] theorem p_gt (i j : Int) : pfS s .gt [.int i, .int j] = some (pv (.bl (decide (j < i)))) := (rfl)
@[simp] theorem p_ge (i j : Int) : pfS s .ge [.int i, .int j] = some (pv (.bl (decide (j ≤ i)))) := (rfl)
@[simp] theorem p_inn (x y : D) : pfS s .inn [x, y] = (inD x y).map fun b => pv (.bl b) := (rfl)
@[simp] theorem p_nin (x y : D) : pfS s .nin [x, y] = (inD x y).map fun b => pv (.bl (!b)) := (rfl)
@[simp] theorem p_idx_l (xs : List D) (i : Int) : pfS s .idx [.lst xs, .int i] = (atD xs i).map pv := (rfl)
@[simp] theorem p_idx_t (xs : List D) (i : Int) : pfS s .idx [.tup xs, .int i] = (atD xs i).map pv := (rfl)
@[simp] theorem p_idx_r (k : Nat) (i : Int) : pfS s .idx [.ref k, .int i] = (lstB s[k]?).bind fun xs => (atD xs i).map pv := (rfl)
@[simp] theorem lstB_l (xs : List D) : lstB (some (.lst xs)) = some xs := (rfl)
@[simp] theorem p_len_l (xs : List D) : pfS s .len [.lst xs] = some (pv (.int xs.length)) := (rfl)
@[simp] theorem p_len_t (xs : List D) : pfS s .len [.tup xs] = some (pv (.int xs.length)) := (rfl)
@[simp] theorem p_len_r (k : Nat) : pfS s .len [.ref k] = (lstB s[k]?).map fun xs => pv (.int xs.length) := (rfl)
@[simp] theorem p_len_s (x : Str) : pfS s .len [.str x] = gd (lineOk x.length) (pv (.int x.length)) := (rfl)
@[simp] theorem p_str_i (i : Int) : pfS s .str [.int i] = gd (decide (i.natAbs.log2 < 1920)) (pv (.str (toString i))) := (rfl)
@[simp] theorem p_str_s (x : Str) : pfS s .str [.str x] = some (pv (.str x)) := (rfl)
@[simp] theorem p_abs (i : Int) : pfS s .abs [.int i] = some (pv (.int (if i < 0 then -i else i))) := (rfl)
@[simp] theorem p_int (i : Int) : pfS s .int [.int i] = some (pv (.int i)) := (rfl)
@[simp] theorem p_intB (b : Bool) : pfS s .int [.bl b] = some (pv (.int (if b then 1 else 0))) := (rfl)
@[simp] theorem p_fld (f : Str) (x : D) : pfS s (.fld f) [x] = (fldD s f x).map pv := (rfl)
@[simp] theorem p_rev_l (xs : List D) : pfS s .rev [.lst xs] = some (.lst xs.reverse, true) := (rfl)
@[simp] theorem p_rev_t (xs : List D) : pfS s .rev [.tup xs] = some (pv (.tup xs.reverse)) := (rfl)
@[simp] theorem p_listR (j : Int) : pfS s .listR [.int j] = gd (decide (-1000000 ≤ j) && decide (j ≤ 1000000)) (.lst (rangeD j), true) := (rfl)
@[simp] theorem p_tupR (j : Int) : pfS s .tupR [.int j] = gd (decide (-1000000 ≤ j) && decide (j ≤ 1000000)) (pv (.tup (rangeD j))) := (rfl)
@[simp] theorem p_inK (b : Bool) (kvs : List (Str × Int)) (x : Str) : pfS s (.inK b kvs) [.str x] = some (pv (.bl (b != (kvs.lookup x).isSome))) := (rfl)
@[simp] theorem p_getK (kvs : List (Str × Int)) (x : Str) : pfS s (.getK kvs) [.str x] = (kvs.lookup x).map fun i => pv (.int i) := (rfl)
@[simp] theorem p_sum (xs : List D) : pfS s .sum [.lst xs] = (intsD xs).map fun is => pv (.int is.sum) := by
  show (intsD xs).bind (fun is => (some is.sum).map fun i => pv (.int i)) = _
  cases intsD xs <;> rfl
@[simp] theorem p_max (xs : List D) : pfS s .max [.lst xs] = (intsD xs).bind fun is => (maxL is).map fun i => pv (.int i) := (rfl)
@[simp] theorem p_min (xs : List D) : pfS s .min [.lst xs] = (intsD xs).bind fun is => (minL is).map fun i => pv (.int i) := (rfl)
@[simp] theorem p_sorted (xs : List D) : pfS s .sorted [.lst xs] = (intsD xs).bind fun is => gd (decide (is.length < 16777216)) (.lst ((sortI is).map D.int), true) := (rfl)
@[simp] theorem p_max2 (i j : Int) : pfS s .max2 [.int i, .int j] = some (pv (.int (if j > i then j else i))) := (rfl)
@[simp] theorem p_min2 (i j : Int) : pfS s .min2 [.int i, .int j] = some (pv (.int (if j < i then j else i))) := (rfl)
@[simp] theorem p_neg (i : Int) : pfS s .neg [.int i] = some (pv (.int (-i))) := (rfl)
@[simp] theorem p_inv (i : Int) : pfS s .inv [.int i] = some (pv (.int (Builtin.bitNot i))) := (rfl)
@[simp] theorem p_isN (x : D) : pfS s .isN [x] = some (pv (.bl (nonD x))) := (rfl)
@[simp] theorem p_isNN (x : D) : pfS s .isNN [x] = some (pv (.bl (!nonD x))) := (rfl)
@[simp] theorem p_isB (b : Bool) (x : D) : pfS s (.isB b) [x] = some (pv (.bl (isBD b x))) := (rfl)
@[simp] theorem p_isNB (b : Bool) (x : D) : pfS s (.isNB b) [x] = some (pv (.bl (!isBD b x))) := (rfl)
@[simp] theorem p_isi (t : Ty) (x : D) : pfS s (.isi t) [x] = (isiD x t).map fun b => pv (.bl b) := (rfl)
@[simp] theorem p_tuple_l (xs : List D) : pfS s .tuple [.lst xs] = some (pv (.tup xs)) := (rfl)
@[simp] theorem p_tuple_t (xs : List D) : pfS s .tuple [.tup xs] = some (pv (.tup xs)) := (rfl)
@[simp] theorem p_list_l (xs : List D) : pfS s .list [.lst xs] = some (.lst xs, true) := (rfl)
@[simp] theorem p_list_t (xs : List D) : pfS s .list [.tup xs] = some (.lst xs, true) := (rfl)
@[simp] theorem p_all (xs : List D) : pfS s .all [.lst xs] = (blsD xs).map fun bs => pv (.bl (bs.all id)) := (rfl)
@[simp] theorem p_any (xs : List D) : pfS s .any [.lst xs] = (blsD xs).map fun bs => pv (.bl (bs.any id)) := (rfl)
@[simp] theorem p_slc00 (x : D) : pfS s (.slc false false) [x] = slcD none none x := (rfl)
@[simp] theorem p_slc10 (x : D) (i : Int) : pfS s (.slc true false) [x, .int i] = slcD (some i) none x := (rfl)
@[simp] theorem p_slc01 (x : D) (i : Int) : pfS s (.slc false true) [x, .int i] = slcD none (some i) x := (rfl)
@[simp] theorem p_slc11 (x : D) (i j : Int) : pfS s (.slc true true) [x, .int i, .int j] = slcD (some i) (some j) x := (rfl)
@[simp] theorem slc_l (lo hi : Option Int) (xs : List D) : slcD lo hi (.lst xs) = some (.lst (cutD xs lo hi), true) := (rfl)
@[simp] theorem slc_t (lo hi : Option Int) (xs : List D) : slcD lo hi (.tup xs) = some (pv (.tup (cutD xs lo hi))) := (rfl)
@[simp] theorem slc_s (lo hi : Option Int) (xs : List Int) : slcD lo hi (.scr xs) = some (.lst (cutD (xs.map D.int) lo hi), true) := (rfl)
@[simp] theorem nonD_non : nonD .non = true := (rfl)
@[simp] theorem nonD_i (i : Int) : nonD (.int i) = false := (rfl)
@[simp] theorem nonD_b (i : Bool) : nonD (.bl i) = false := (rfl)
@[simp] theorem nonD_s (i : Str) : nonD (.str i) = false := (rfl)
@[simp] theorem nonD_t (i : List D) : nonD (.tup i) = false := (rfl)
@[simp] theorem nonD_l (i : List D) : nonD (.lst i) = false := (rfl)
@[simp] theorem isBD_b (b c : Bool) : isBD b (.bl c) = (b == c) := (rfl)
@[simp] theorem isBD_n (b : Bool) : isBD b .non = false := (rfl)
@[simp] theorem isBD_i (b : Bool) (i : Int) : isBD b (.int i) = false := (rfl)
@[simp] theorem isBD_t (b : Bool) (i : List D) : isBD b (.tup i) = false := (rfl)
@[simp] theorem isBD_l (b : Bool) (i : List D) : isBD b (.lst i) = false := (rfl)
@[simp] theorem isBD_s (b : Bool) (i : Str) : isBD b (.str i) = false := (rfl)
theorem lim62 {j : Int} (h0 : -1000000000 ≤ j) (h1 : j ≤ 1000000000) : (decide (-(2 ^ 62) ≤ j) && decide (j < 2 ^ 62)) = true := by
  rw [Bool.and_eq_true]
  exact ⟨decide_eq_true (by omega), decide_eq_true (by omega)⟩
theorem it_ri (j : Int) (h0 : -1000000000 ≤ j) (h1 : j ≤ 1000000000) : itemsD .rng1 [.int j] = some ((List.range j.toNat).map fun n : Nat => D.int (n : Int)) := by
  show gd (decide (-(2 ^ 62) ≤ j) && decide (j < 2 ^ 62)) ((List.range j.toNat).map fun n : Nat => D.int (n : Int)) = _
  rw [lim62 h0 h1]; rfl
theorem it_rn (n : Nat) (h : n ≤ 1000000000) : itemsD .rng1 [.int (n : Int)] = some ((List.range n).map fun n : Nat => D.int (n : Int)) := by
  rw [it_ri _ (by omega) (by omega), Int.toNat_natCast]
theorem it_r2 (i j : Int) (h0 : -1000000000 ≤ i) (h1 : i ≤ 1000000000) (h2 : -1000000000 ≤ j) (h3 : j ≤ 1000000000) : itemsD .rng2 [.int i, .int j] = some ((List.range (j - i).toNat).map fun n : Nat => D.int (i + (n : Int))) := by
  show gd (decide (-(2 ^ 62) ≤ i) && decide (i < 2 ^ 62) && decide (-(2 ^ 62) ≤ j) && decide (j < 2 ^ 62)) ((List.range (j - i).toNat).map fun n : Nat => D.int (i + (n : Int))) = _
  rw [lim62 h0 h1, Bool.true_and]
  have := lim62 h2 h3
  rw [Bool.and_eq_true] at this
  rw [this.1, this.2]; rfl
@[simp] theorem it_l (xs : List D) : itemsD .seq [.lst xs] = some xs := (rfl)
@[simp] theorem it_el (xs : List D) : itemsD .enm [.lst xs] = some (enumD xs) := (rfl)
@[simp] theorem it_et (xs : List D) : itemsD .enm [.tup xs] = some (enumD xs) := (rfl)
@[simp] theorem it_zl (xs ys : List D) : itemsD .zip [.lst xs, .lst ys] = some (zipD xs ys) := (rfl)
@[simp] theorem it_zt (xs ys : List D) : itemsD .zip [.tup xs, .tup ys] = some (zipD xs ys) := (rfl)
@[simp] theorem it_t (xs : List D) : itemsD .seq [.tup xs] = some xs := (rfl)
theorem blsD_map {α : Type} (f : α → Bool) : ∀ xs : List α, blsD (xs.map fun x => .bl (f x)) = some (xs.map f)
  | [] => rfl
  | x :: xs => by
    show (blsD (xs.map fun x => .bl (f x))).map (f x :: ·) = _
    rw [blsD_map f xs]; rfl
theorem gd_t {α : Type} {c : Bool} {a : α} (h : c = true) : gd c a = some a := by rw [h]; rfl
@[simp] theorem gd_true {α : Type} (a : α) : gd true a = some a := (rfl)
@[simp] theorem lineOk_lit (n : Nat) : lineOk n = decide (n ≤ 16777216) := (rfl)
end
/-! ### comprehensions -/
section
variable {C : CallF}
/-- a turn within the block -/
def lcB (C : CallF) (t : Tg) (ifs : List E) (y : E) (x : D) : M (Option D) := M.bind (setTg t (pv x)) fun _ => M.bind (evalIfs C ifs) fun b => if b then M.bind (evalE C y) fun r => M.ret (some r.1) else M.ret none
def kLy : R → EnvI → Sto → Res (Option D) := fun r e s => .ok (some r.1) e s
def kLe (C : CallF) (y : E) : Unit → EnvI → Sto → Res (Option D) := fun _ e s => Res.bind (evalE C y e s) kLy
@[simp] theorem kLy_ (r : R) (e : EnvI) (s : Sto) : kLy r e s = .ok (some r.1) e s := (rfl)
@[simp] theorem kLe_ (y : E) (u : Unit) (e : EnvI) (s : Sto) : kLe C y u e s = Res.bind (evalE C y e s) kLy := (rfl)
@[simp] theorem lcB_0 (t : Tg) (y : E) (x : D) (e : EnvI) (s : Sto) : lcB C t [] y x e s = Res.bind (setTg t (pv x) e s) (kLe C y) := bind_to fun _ e s => bind_to fun _ _ _ => rfl
def kLi (C : CallF) (y : E) : EnvI → Sto → Res (Option D) := fun e s => Res.bind (evalE C y e s) kLy
def kNo : EnvI → Sto → Res (Option D) := fun e s => .ok none e s
def kLf2 (C : CallF) (y : E) : R → EnvI → Sto → Res (Option D) := fun r e s => onB (asB r.1) (kLi C y) kNo e s
def kLf (C : CallF) (c y : E) : Unit → EnvI → Sto → Res (Option D) := fun _ e s => Res.bind (evalE C c e s) (kLf2 C y)
@[simp] theorem kLi_ (y : E) (e : EnvI) (s : Sto) : kLi C y e s = Res.bind (evalE C y e s) kLy := (rfl)
@[simp] theorem kNo_ (e : EnvI) (s : Sto) : kNo e s = .ok none e s := (rfl)
@[simp] theorem kLf2_ (y : E) (r : R) (e : EnvI) (s : Sto) : kLf2 C y r e s = onB (asB r.1) (kLi C y) kNo e s := (rfl)
@[simp] theorem kLf_ (c y : E) (u : Unit) (e : EnvI) (s : Sto) : kLf C c y u e s = Res.bind (evalE C c e s) (kLf2 C y) := (rfl)
@[simp] theorem lcB_1 (t : Tg) (c y : E) (x : D) (e : EnvI) (s : Sto) : lcB C t [c] y x e s = Res.bind (setTg t (pv x) e s) (kLf C c y) := bind_to fun _ e s => by
  show M.bind (M.bind (evalE C c) fun r => match asB r.1 with
    | some true => evalIfs C []
    | some false => M.ret false
    | none => fun _ _ => .stuck) (fun b => if b then M.bind (evalE C y) fun r => M.ret (some r.1) else M.ret none) e s = _
  rw [M.assoc]
  refine bind_to fun r e s => ?_
  rw [kLf2_]
  cases asB r.1 with
  | none => rfl
  | some c => cases c <;> rfl
theorem wipe_len (e : EnvI) : ∀ own : List Nat, (wipeI e own).length = e.length
  | [] => rfl
  | i :: r => by
    show (wipeI (e.set i .none) r).length = _
    rw [wipe_len (e.set i .none) r, List.length_set]
theorem wipe_get : ∀ (own : List Nat) (e : EnvI) (j : Nat), j ∉ own → (wipeI e own)[j]? = e[j]?
  | [], _, _, _ => rfl
  | i :: r, e, j, h => by
    show (wipeI (e.set i .none) r)[j]? = _
    rw [wipe_get r (e.set i .none) j (fun z => h (List.mem_cons_of_mem _ z)), List.getElem?_set_ne (fun z => h (by rw [z]; exact List.mem_cons_self))]
theorem back_len (e : EnvI) : ∀ (own : List Nat) (e' : EnvI), (backI e e' own).length = e'.length
  | [], _ => rfl
  | i :: r, e' => by
    show (backI e (e'.set i (e.getD i .none)) r).length = _
    rw [back_len e r, List.length_set]
theorem back_get (e : EnvI) : ∀ (own : List Nat) (e' : EnvI) (j : Nat), e'.length = e.length → (backI e e' own)[j]? = if j ∈ own then e[j]? else e'[j]?
  | [], _, _, _ => by rw [if_neg (by simp)]; rfl
  | i :: r, e', j, hl => by
    show (backI e (e'.set i (e.getD i .none)) r)[j]? = _
    rw [back_get e r _ j (by rw [List.length_set]; exact hl)]
    by_cases h : j ∈ r
    · rw [if_pos h, if_pos (List.mem_cons_of_mem _ h)]
    · rw [if_neg h]
      by_cases hi : j = i
      · subst hi
        rw [if_pos List.mem_cons_self]
        rcases Nat.lt_or_ge j e.length with z | z
        · rw [List.getElem?_set_self (by omega), List.getD_eq_getElem?_getD, List.getElem?_eq_getElem z]
          rfl
        · rw [List.getElem?_eq_none (by rw [List.length_set]; omega), List.getElem?_eq_none z]
      · rw [if_neg (fun z => by rcases List.mem_cons.mp z with z | z <;> contradiction), List.getElem?_set_ne (Ne.symm hi)]
theorem back_of {e e' : EnvI} {own : List Nat} (h : wipeI e' own = wipeI e own) : backI e e' own = e := by
  have hl : e'.length = e.length := by rw [← wipe_len e' own, h, wipe_len]
  apply List.ext_getElem?
  intro j
  rw [back_get e own e' j hl]
  by_cases hj : j ∈ own
  · rw [if_pos hj]
  · rw [if_neg hj, ← wipe_get own e' j hj, h, wipe_get own e j hj]
/-- a comprehension whose turns are told one by one: I holds of the store ahead of turn i, Rr of item and value -/
theorem lc_idx {own : List Nat} {t : Tg} {ifs : List E} {y : E} {e : EnvI} (I : Nat → Sto → Prop) (Rr : D → Option D → Prop) (hn : noOwn e own = true) (xs : List D) (hx : xs.length ≤ 16777216)
    (step : ∀ (i : Nat) (x : D) (s : Sto), xs[i]? = some x → I i s → ∃ o e' s', lcB C t ifs y x (wipeI e own) s = .ok o e' s' ∧ wipeI e' own = wipeI e own ∧ I (i + 1) s' ∧ Rr x o) {s : Sto} (hs : I 0 s) :
    ∃ (os : List (Option D)) (s' : Sto), inBlk own (lcGo (lcS C own t ifs y) xs []) e s = .ok (os.filterMap id) e s' ∧ I xs.length s' ∧ os.length = xs.length ∧ ∀ (i : Nat) (x : D) (o : Option D), xs[i]? = some x → os[i]? = some o → Rr x o := by
  have go : ∀ (zs : List D) (k : Nat) (acc : List D) (e0 : EnvI) (s : Sto), acc.length + zs.length ≤ 16777216 → xs.drop k = zs → k ≤ xs.length → wipeI e0 own = wipeI e own → I k s →
      ∃ (os : List (Option D)) (e' : EnvI) (s' : Sto), lcGo (lcS C own t ifs y) zs acc e0 s = .ok (acc ++ os.filterMap id) e' s' ∧ wipeI e' own = wipeI e own ∧ I xs.length s' ∧ os.length = zs.length ∧ ∀ (i : Nat) (x : D) (o : Option D), zs[i]? = some x → os[i]? = some o → Rr x o := by
    intro zs
    induction zs with
    | nil =>
      intro k acc e0 s _ hd hk he hs
      have : xs.length = k := by
        have := congrArg List.length hd
        rw [List.length_drop, List.length_nil] at this
        omega
      exact ⟨[], e0, s, by rw [List.filterMap_nil, List.append_nil]; rfl, he, by rw [this]; exact hs, rfl, fun i x o h => by simp at h⟩
    | cons z zs ih =>
      intro k acc e0 s hl hd hk he hs
      have hlt : k < xs.length := by
        have := congrArg List.length hd
        rw [List.length_drop, List.length_cons] at this
        omega
      have hz : xs[k]? = some z := by
        have := congrArg List.head? hd
        rw [List.head?_drop] at this
        exact this
      have hd2 : xs.drop (k + 1) = zs := by rw [← List.drop_drop, hd]; rfl
      obtain ⟨o, e1, s1, h1, h2, h3, h4⟩ := step k z s hz hs
      have hstep : lcS C own t ifs y z e0 s = .ok o e1 s1 := by
        show lcB C t ifs y z (wipeI e0 own) s = _
        rw [he]; exact h1
      have hg : lcGo (lcS C own t ifs y) (z :: zs) acc e0 s = (match o with
        | some y' => if acc.length < 16777216 then lcGo (lcS C own t ifs y) zs (acc ++ [y']) else fun _ _ => .stuck
        | none => lcGo (lcS C own t ifs y) zs acc) e1 s1 := M.bind_ok hstep
      rw [List.length_cons] at hl
      have fin : ∀ os : List (Option D), (∀ (i : Nat) (x : D) (o : Option D), zs[i]? = some x → os[i]? = some o → Rr x o) → ∀ (i : Nat) (x : D) (o' : Option D), (z :: zs)[i]? = some x → (o :: os)[i]? = some o' → Rr x o' := fun os h i x o' a b => by
        cases i with
        | zero =>
          rw [List.getElem?_cons_zero] at a b
          cases a; cases b
          exact h4
        | succ i =>
          rw [List.getElem?_cons_succ] at a b
          exact h i x o' a b
      cases o with
      | none =>
        obtain ⟨os, e', s', q1, q2, q3, q4, q5⟩ := ih (k + 1) acc e1 s1 (by omega) hd2 hlt h2 h3
        exact ⟨none :: os, e', s', hg.trans q1, q2, q3, by rw [List.length_cons, q4, List.length_cons], fin os q5⟩
      | some y' =>
        obtain ⟨os, e', s', q1, q2, q3, q4, q5⟩ := ih (k + 1) (acc ++ [y']) e1 s1 (by rw [List.length_append, List.length_singleton]; omega) hd2 hlt h2 h3
        refine ⟨some y' :: os, e', s', ?_, q2, q3, by rw [List.length_cons, q4, List.length_cons], fin os q5⟩
        rw [hg]
        show (if acc.length < 16777216 then lcGo (lcS C own t ifs y) zs (acc ++ [y']) else fun _ _ => .stuck) e1 s1 = _
        rw [if_pos (by omega), q1, List.append_assoc]
        rfl
  obtain ⟨os, e', s', q1, q2, q3, q4, q5⟩ := go xs 0 [] e s (by simpa using hx) rfl (Nat.zero_le _) rfl hs
  refine ⟨os, s', ?_, q3, q4, q5⟩
  unfold inBlk
  rw [if_pos hn, q1]
  show Res.ok ([] ++ os.filterMap id) (backI e e' own) s' = _
  rw [back_of q2]
  rfl
theorem lc_all {own : List Nat} {t : Tg} {ifs : List E} {y : E} {e : EnvI} (I : Sto → Prop) (Rr : D → Option D → Prop) (hn : noOwn e own = true) (xs : List D) (hx : xs.length ≤ 16777216)
    (step : ∀ x ∈ xs, ∀ s, I s → ∃ o e' s', lcB C t ifs y x (wipeI e own) s = .ok o e' s' ∧ wipeI e' own = wipeI e own ∧ I s' ∧ Rr x o) {s : Sto} (hs : I s) :
    ∃ (os : List (Option D)) (s' : Sto), inBlk own (lcGo (lcS C own t ifs y) xs []) e s = .ok (os.filterMap id) e s' ∧ I s' ∧ os.length = xs.length ∧ ∀ (i : Nat) (x : D) (o : Option D), xs[i]? = some x → os[i]? = some o → Rr x o :=
  lc_idx (fun _ => I) Rr hn xs hx (fun i x s h1 h2 => step x (List.mem_of_getElem? h1) s h2) hs
/-- .. that draws: each value is told, none is left out -/
theorem lc_draw {own : List Nat} {t : Tg} {y : E} {e : EnvI} (I : Nat → Sto → Prop) (Rr : D → D → Prop) (hn : noOwn e own = true) (xs : List D) (hx : xs.length ≤ 16777216)
    (step : ∀ (i : Nat) (x : D) (s : Sto), xs[i]? = some x → I i s → ∃ v e' s', lcB C t [] y x (wipeI e own) s = .ok (some v) e' s' ∧ wipeI e' own = wipeI e own ∧ I (i + 1) s' ∧ Rr x v) {s : Sto} (hs : I 0 s) :
    ∃ (ys : List D) (s' : Sto), inBlk own (lcGo (lcS C own t [] y) xs []) e s = .ok ys e s' ∧ I xs.length s' ∧ ys.length = xs.length ∧ ∀ (i : Nat) (x v : D), xs[i]? = some x → ys[i]? = some v → Rr x v := by
  obtain ⟨os, s', h1, h2, h3, h4⟩ := lc_idx I (fun x o => ∃ v, o = some v ∧ Rr x v) hn xs hx (fun i x s a b => by
    obtain ⟨v, e', s', q1, q2, q3, q4⟩ := step i x s a b
    exact ⟨some v, e', s', q1, q2, q3, v, rfl, q4⟩) hs
  have : ∃ ys : List D, os = ys.map some := by
    clear h1 h2
    have hall : ∀ o ∈ os, ∃ v, o = some v := fun o ho => by
      obtain ⟨i, hi⟩ := List.getElem?_of_mem ho
      have hlt : i < xs.length := by rw [← h3]; exact (List.getElem?_eq_some_iff.mp hi).1
      obtain ⟨v, q, _⟩ := h4 i _ o (List.getElem?_eq_getElem hlt) hi
      exact ⟨v, q⟩
    clear h3 h4
    induction os with
    | nil => exact ⟨[], rfl⟩
    | cons o os ih =>
      obtain ⟨v, rfl⟩ := hall o List.mem_cons_self
      obtain ⟨ys, rfl⟩ := ih fun o ho => hall o (List.mem_cons_of_mem _ ho)
      exact ⟨v :: ys, rfl⟩
  obtain ⟨ys, rfl⟩ := this
  refine ⟨ys, s', ?_, h2, by rw [← h3, List.length_map], fun i x v a b => ?_⟩
  · rw [h1, List.filterMap_map]
    congr 1
    exact List.filterMap_some
  · obtain ⟨w, q1, q2⟩ := h4 i x (some v) a (by rw [List.getElem?_map, b]; rfl)
    cases q1
    exact q2
/-- .. where nothing is changed -/
theorem lc_pure {own : List Nat} {t : Tg} {ifs : List E} {y : E} {e : EnvI} {s : Sto} (f : D → Option D) (hn : noOwn e own = true) (xs : List D) (hx : xs.length ≤ 16777216)
    (step : ∀ x ∈ xs, ∃ e', lcB C t ifs y x (wipeI e own) s = .ok (f x) e' s ∧ wipeI e' own = wipeI e own) : inBlk own (lcGo (lcS C own t ifs y) xs []) e s = .ok (xs.filterMap f) e s := by
  obtain ⟨os, s', h1, rfl, h3, h4⟩ := lc_all (fun z => z = s) (fun x o => o = f x) hn xs hx (fun x hx z hz => by
    obtain ⟨e', q1, q2⟩ := step x hx
    subst hz
    exact ⟨f x, e', z, q1, q2, rfl, rfl⟩) rfl
  rw [h1]
  have : os = xs.map f := by
    apply List.ext_getElem?
    intro i
    rw [List.getElem?_map]
    rcases Nat.lt_or_ge i xs.length with h | h
    · rw [List.getElem?_eq_getElem h, List.getElem?_eq_getElem (by omega)]
      exact congrArg some (h4 i _ _ (List.getElem?_eq_getElem h) (List.getElem?_eq_getElem (by omega)))
    · rw [List.getElem?_eq_none h, List.getElem?_eq_none (by omega)]; rfl
  rw [this, List.filterMap_map]
  rfl
theorem lc_map {own : List Nat} {t : Tg} {y : E} {e : EnvI} {s : Sto} (f : D → D) (hn : noOwn e own = true) (xs : List D) (hx : xs.length ≤ 16777216)
    (step : ∀ x ∈ xs, ∃ e', lcB C t [] y x (wipeI e own) s = .ok (some (f x)) e' s ∧ wipeI e' own = wipeI e own) : inBlk own (lcGo (lcS C own t [] y) xs []) e s = .ok (xs.map f) e s := by
  rw [lc_pure (fun x => some (f x)) hn xs hx step]
  congr 1
  exact congrFun List.filterMap_eq_map xs
end
/-! ### exceptions -/
section
variable {C : CallF} {sub : Nat → Nat → Option Bool} {N : Nat} {env : EnvI} {st : Sto}
@[simp] theorem s_raise0 (c : Nat) : evalS C sub N (.raise c []) env st = .err ⟨c, none⟩ env st := (rfl)
def triK (C : CallF) (sub : Nat → Nat → Option Bool) (hs : List (Nat × Option Nat × HB)) (r : Res Fl) : Res Fl := match r with
  | .err x e s => hdGo C sub x hs e s
  | r => r
@[simp] theorem s_tri (body : List S) (hs : List (Nat × Option Nat × HB)) : evalS C sub N (.tri body hs) env st = triK C sub hs (evalSs C sub N body env st) := by
  show (match evalSs C sub N body env st with
    | .err x env' st' => hdGo C sub x hs env' st'
    | r => r) = _
  unfold triK
  cases evalSs C sub N body env st <;> rfl
@[simp] theorem triK_ok (hs : List (Nat × Option Nat × HB)) (f : Fl) (e : EnvI) (s : Sto) : triK C sub hs (.ok f e s) = .ok f e s := (rfl)
@[simp] theorem triK_err (hs : List (Nat × Option Nat × HB)) (x : Exc) (e : EnvI) (s : Sto) : triK C sub hs (.err x e s) = hdGo C sub x hs e s := (rfl)
def hdQ (C : CallF) (sub : Nat → Nat → Option Bool) (x : Exc) (n : Option Nat) (b : HB) (r : List (Nat × Option Nat × HB)) (o : Option Bool) : M Fl := match o with
  | some true => runN n (hbM C b)
  | some false => hdGo C sub x r
  | none => fun _ _ => .stuck
@[simp] theorem hdGo_cons (x : Exc) (c : Nat) (n : Option Nat) (b : HB) (r : List (Nat × Option Nat × HB)) : hdGo C sub x ((c, n, b) :: r) env st = hdQ C sub x n b r (sub x.c c) env st := by
  show (match sub x.c c with
    | some true => runN n (hbM C b)
    | some false => hdGo C sub x r
    | none => fun _ _ => .stuck) env st = _
  unfold hdQ
  cases sub x.c c with
  | none => rfl
  | some v => cases v <;> rfl
@[simp] theorem hdGo_nil (x : Exc) : hdGo C sub x [] env st = .err x env st := (rfl)
@[simp] theorem hdQ_t (x : Exc) (n : Option Nat) (b : HB) (r : List (Nat × Option Nat × HB)) : hdQ C sub x n b r (some true) env st = runN n (hbM C b) env st := (rfl)
@[simp] theorem hdQ_f (x : Exc) (n : Option Nat) (b : HB) (r : List (Nat × Option Nat × HB)) : hdQ C sub x n b r (some false) env st = hdGo C sub x r env st := (rfl)
@[simp] theorem runN_n (m : M Fl) : runN none m env st = m env st := (rfl)
def runK (i : Nat) (r : Res Fl) : Res Fl := match r with
  | .ok f e s => .ok f (e.set i .none) s
  | _ => .stuck
@[simp] theorem runN_s (i : Nat) (m : M Fl) : runN (some i) m env st = runK i (m (env.set i .none) st) := by
  unfold runN runK
  dsimp only
  cases m (env.set i .none) st <;> rfl
@[simp] theorem runK_ok (i : Nat) (f : Fl) (e : EnvI) (s : Sto) : runK i (.ok f e s) = .ok f (e.set i .none) s := (rfl)
@[simp] theorem hb_ret (e : E) : hbM C (.ret e) env st = Res.bind (evalE C e env st) kR := bind_to fun _ _ _ => rfl
@[simp] theorem hb_asg (i : Nat) (e : E) : hbM C (.asg i e) env st = Res.bind (evalE C e env st) (kA (.name i)) := bind_to fun r e s => bind_to fun _ _ _ => rfl
@[simp] theorem hb_ct : hbM C .ct env st = .ok .ct env st := (rfl)
@[simp] theorem hb_pass : hbM C .pass env st = .ok .nx env st := (rfl)
end
/-! ### loops -/
/-- a walk whose turns keep a word -/
theorem for_all {step : D → M Fl} (P : Nat → EnvI → Sto → Prop) (xs : List D) (h : ∀ (i : Nat) (x : D) (e : EnvI) (s : Sto), xs[i]? = some x → P i e s → ∃ f e' s', step x e s = .ok f e' s' ∧ (f = .nx ∨ f = .ct) ∧ P (i + 1) e' s') {e : EnvI} {s : Sto} (h0 : P 0 e s) :
    ∃ e' s', forGo step xs e s = .ok .nx e' s' ∧ P xs.length e' s' := by
  have go : ∀ (zs : List D) (k : Nat) (e : EnvI) (s : Sto), xs.drop k = zs → k ≤ xs.length → P k e s → ∃ e' s', forGo step zs e s = .ok .nx e' s' ∧ P xs.length e' s' := by
    intro zs
    induction zs with
    | nil =>
      intro k e s hd hk hp
      have : xs.length = k := by
        have := congrArg List.length hd
        rw [List.length_drop, List.length_nil] at this
        omega
      exact ⟨e, s, rfl, by rw [this]; exact hp⟩
    | cons z zs ih =>
      intro k e s hd hk hp
      have hlt : k < xs.length := by
        have := congrArg List.length hd
        rw [List.length_drop, List.length_cons] at this
        omega
      have hz : xs[k]? = some z := by
        have := congrArg List.head? hd
        rw [List.head?_drop] at this
        exact this
      obtain ⟨f, e1, s1, q1, q2, q3⟩ := h k z e s hz hp
      obtain ⟨e2, s2, r1, r2⟩ := ih (k + 1) e1 s1 (by rw [← List.drop_drop, hd]; rfl) hlt q3
      refine ⟨e2, s2, ?_, r2⟩
      rw [for_cons, q1, Res.bind_ok, kFl_]
      rcases q2 with rfl | rfl
      · exact r1
      · exact r1
  exact go xs 0 e s rfl (Nat.zero_le _) h0
end IP

set_option Elab.async false
set_option linter.all false
set_option maxRecDepth 100000
namespace IP
open PySem
def d_is_integer : FDef := { np := 1, nv := 1, body := [.ret (.and (.prim (.isi (.int)) [.bor 0]) (.not (.prim (.isi (.bool)) [.bor 0])))], ini := false }
def d_common : FDef := { np := 2, nv := 2, body := [.while (.prim (.gt) [.bor 1, .con (.int 0)]) [.par [0, 1] [.var 1, .prim (.mod) [.bor 0, .bor 1]]], .ret (.var 0)], ini := false }
def d_share : FDef := { np := 2, nv := 3, body := [.asg (.name 2) (.call 1 [.prim (.abs) [.bor 0], .var 1]), .ret (.tup [.prim (.fdiv) [.bor 0, .bor 2], .prim (.fdiv) [.bor 1, .bor 2]])], ini := false }
def d_is_fraction : FDef := { np := 1, nv := 2, body := [.ite (.or (.not (.prim (.isi (.tuple)) [.bor 0])) (.or (.prim (.ne) [.prim (.len) [.bor 0], .con (.int 2)]) (.not (.prim (.all) [.lc [1] (.name 1) (.seq) [.var 0] [] (.call 0 [.var 1])])))) [.ret (.con (.bl false))] [], .ret (.and (.prim (.gt) [.prim (.idx) [.bor 0, .con (.int 1)], .con (.int 0)]) (.prim (.eq) [.call 1 [.prim (.abs) [.prim (.idx) [.bor 0, .con (.int 0)]], .prim (.idx) [.bor 0, .con (.int 1)]], .con (.int 1)]))], ini := false }
def d_need_fraction : FDef := { np := 1, nv := 1, body := [.ite (.not (.call 2 [.var 0])) [.raise 1 []] []], ini := false }
def d_plus : FDef := { np := 2, nv := 2, body := [.ite (.prim (.eq) [.prim (.idx) [.bor 0, .con (.int 0)], .con (.int 0)]) [.ret (.var 1)] [], .ite (.prim (.eq) [.prim (.idx) [.bor 1, .con (.int 0)], .con (.int 0)]) [.ret (.var 0)] [], .ret (.call 18 [.prim (.add) [.prim (.mul) [.prim (.idx) [.bor 0, .con (.int 0)], .prim (.idx) [.bor 1, .con (.int 1)]], .prim (.mul) [.prim (.idx) [.bor 1, .con (.int 0)], .prim (.idx) [.bor 0, .con (.int 1)]]], .prim (.mul) [.prim (.idx) [.bor 0, .con (.int 1)], .prim (.idx) [.bor 1, .con (.int 1)]]])], ini := false }
def d_times : FDef := { np := 2, nv := 2, body := [.ite (.or (.prim (.eq) [.prim (.idx) [.bor 0, .con (.int 0)], .con (.int 0)]) (.prim (.eq) [.prim (.idx) [.bor 1, .con (.int 0)], .con (.int 0)])) [.ret (.con (.tup [.int 0, .int 1]))] [], .ret (.call 18 [.prim (.mul) [.prim (.idx) [.bor 0, .con (.int 0)], .prim (.idx) [.bor 1, .con (.int 0)]], .prim (.mul) [.prim (.idx) [.bor 0, .con (.int 1)], .prim (.idx) [.bor 1, .con (.int 1)]]])], ini := false }
def d_over : FDef := { np := 2, nv := 2, body := [.ret (.call 18 [.prim (.mul) [.prim (.idx) [.bor 0, .con (.int 0)], .prim (.idx) [.bor 1, .con (.int 1)]], .prim (.mul) [.prim (.idx) [.bor 0, .con (.int 1)], .prim (.idx) [.bor 1, .con (.int 0)]]])], ini := false }
def d_added : FDef := { np := 2, nv := 2, body := [.expr (.call 19 [.var 0]), .expr (.call 19 [.var 1]), .ret (.call 20 [.var 0, .var 1])], ini := false }
def d_multiplied : FDef := { np := 2, nv := 2, body := [.expr (.call 19 [.var 0]), .expr (.call 19 [.var 1]), .ret (.call 21 [.var 0, .var 1])], ini := false }
def d_divided : FDef := { np := 2, nv := 2, body := [.expr (.call 19 [.var 0]), .expr (.call 19 [.var 1]), .ite (.prim (.eq) [.prim (.idx) [.bor 1, .con (.int 0)], .con (.int 0)]) [.ret (.con (.non))] [], .ret (.ite (.prim (.gt) [.prim (.idx) [.bor 1, .con (.int 0)], .con (.int 0)]) (.call 22 [.var 0, .var 1]) (.call 22 [.tup [.prim (.sub) [.con (.int 0), .prim (.idx) [.bor 0, .con (.int 0)]], .prim (.idx) [.bor 0, .con (.int 1)]], .tup [.prim (.sub) [.con (.int 0), .prim (.idx) [.bor 1, .con (.int 0)]], .prim (.idx) [.bor 1, .con (.int 1)]]]))], ini := false }
def d_fraction_of : FDef := { np := 2, nv := 2, body := [.ite (.or (.not (.call 0 [.var 0])) (.or (.not (.call 0 [.var 1])) (.prim (.eq) [.bor 1, .con (.int 0)]))) [.raise 1 []] [], .ret (.ite (.prim (.gt) [.bor 1, .con (.int 0)]) (.call 18 [.var 0, .var 1]) (.call 18 [.prim (.sub) [.con (.int 0), .bor 0], .prim (.sub) [.con (.int 0), .bor 1]]))], ini := false }
def d_law_hand : FDef := { np := 1, nv := 3, body := [.asg (.name 2) (.lc [1] (.name 1) (.seq) [.prim (.slc false true) [.bor 0, .con (.int 63)]] [] (.prim (.abs) [.prim (.int) [.bor 1]])), .ret (.box [.var 2, .con (.int 0), .con (.int 0), .prim (.add) [.con (.int 31), .prim (.mul) [.con (.int 7), .prim (.len) [.bor 2]]], .con (.int 0)])], ini := false }
def d_law_draw : FDef := { np := 2, nv := 5, body := [.ite (.and (.prim (.eq) [.prim (.idx) [.bor 0, .con (.int 2)], .con (.int 0)]) (.prim (.lt) [.prim (.idx) [.bor 0, .con (.int 1)], .prim (.len) [.prim (.idx) [.bor 0, .con (.int 0)]]])) [.asg (.name 2) (.prim (.idx) [.prim (.idx) [.bor 0, .con (.int 0)], .prim (.idx) [.bor 0, .con (.int 1)]]), .setIx 0 (.con (.int 1)) (.prim (.add) [.prim (.idx) [.bor 0, .con (.int 1)], .con (.int 1)]), .setIx 0 (.con (.int 3)) (.prim (.mod) [.prim (.int) [.prim (.add) [.prim (.add) [.prim (.mul) [.prim (.idx) [.bor 0, .con (.int 3)], .con (.int 48271)], .bor 2], .con (.int 11)]], .con (.int 2147483647)]), .ite (.prim (.ge) [.bor 2, .prim (.pow) [.con (.int 10), .con (.int 18)]]) [.setIx 0 (.con (.int 2)) (.var 2)] []] [], .ite (.prim (.gt) [.prim (.idx) [.bor 0, .con (.int 2)], .con (.int 0)]) [.asg (.name 3) (.prim (.mod) [.prim (.int) [.prim (.idx) [.bor 0, .con (.int 2)]], .bor 1]), .setIx 0 (.con (.int 2)) (.prim (.fdiv) [.prim (.idx) [.bor 0, .con (.int 2)], .bor 1]), .ret (.var 3)] [], .setIx 0 (.con (.int 4)) (.prim (.add) [.prim (.idx) [.bor 0, .con (.int 4)], .con (.int 1)]), .asg (.name 4) (.prim (.mod) [.prim (.int) [.prim (.mul) [.prim (.int) [.prim (.add) [.prim (.idx) [.bor 0, .con (.int 3)], .prim (.mul) [.con (.int 6007), .prim (.idx) [.bor 0, .con (.int 4)]]]], .con (.int 69621)]], .con (.int 2147483629)]), .asg (.name 4) (.prim (.mod) [.prim (.int) [.prim (.mul) [.bor 4, .prim (.add) [.prim (.fdiv) [.bor 4, .con (.int 1013)], .con (.int 48271)]]], .con (.int 2147483647)]), .asg (.name 4) (.prim (.mod) [.prim (.int) [.prim (.mul) [.bor 4, .prim (.add) [.prim (.fdiv) [.bor 4, .con (.int 2011)], .con (.int 16807)]]], .con (.int 2147483587)]), .ret (.prim (.mod) [.prim (.int) [.prim (.fdiv) [.bor 4, .con (.int 32)]], .bor 1])], ini := false }
def d_law_some : FDef := { np := 2, nv := 2, body := [.ret (.prim (.idx) [.bor 1, .call 6 [.var 0, .prim (.len) [.bor 1]]])], ini := false }
def d_law_kept : FDef := { np := 2, nv := 3, body := [.ite (.or (.prim (.isi (.tuple)) [.bor 1]) (.prim (.isi (.list)) [.bor 1])) [.ite (.or (.prim (.ne) [.prim (.isi (.tuple)) [.bor 0], .prim (.isi (.tuple)) [.bor 1]]) (.prim (.ne) [.prim (.isi (.list)) [.bor 0], .prim (.isi (.list)) [.bor 1]])) [.ret (.con (.bl false))] [], .ret (.and (.prim (.eq) [.prim (.len) [.bor 0], .prim (.len) [.bor 1]]) (.prim (.all) [.lc [2] (.name 2) (.rng1) [.prim (.len) [.bor 1]] [] (.call 8 [.prim (.idx) [.bor 0, .bor 2], .prim (.idx) [.bor 1, .bor 2]])]))] [], .ite (.prim (.isN) [.bor 1]) [.ret (.prim (.isN) [.bor 0])] [], .ite (.prim (.isi (.bool)) [.bor 1]) [.ret (.ite (.var 1) (.prim (.isB true) [.bor 0]) (.prim (.isB false) [.bor 0]))] [], .ite (.prim (.isi (.int)) [.bor 1]) [.ret (.and (.prim (.isi (.int)) [.bor 0]) (.and (.not (.prim (.isi (.bool)) [.bor 0])) (.prim (.eq) [.bor 0, .bor 1])))] [], .ret (.and (.prim (.isi (.str)) [.bor 0]) (.prim (.eq) [.bor 0, .bor 1]))], ini := false }
def d_law_common : FDef := { np := 2, nv := 2, body := [.while (.prim (.gt) [.bor 1, .con (.int 0)]) [.par [0, 1] [.var 1, .prim (.mod) [.prim (.int) [.bor 0], .bor 1]]], .ret (.var 0)], ini := false }
def d_law_part : FDef := { np := 2, nv := 3, body := [.asg (.name 2) (.call 9 [.prim (.abs) [.bor 0], .var 1]), .ret (.tup [.prim (.fdiv) [.bor 0, .bor 2], .prim (.fdiv) [.bor 1, .bor 2]])], ini := false }
def d_law_plus : FDef := { np := 2, nv := 2, body := [.ret (.call 10 [.prim (.add) [.prim (.mul) [.prim (.idx) [.bor 0, .con (.int 0)], .prim (.idx) [.bor 1, .con (.int 1)]], .prim (.mul) [.prim (.idx) [.bor 1, .con (.int 0)], .prim (.idx) [.bor 0, .con (.int 1)]]], .prim (.mul) [.prim (.idx) [.bor 0, .con (.int 1)], .prim (.idx) [.bor 1, .con (.int 1)]]])], ini := false }
def d_law_times : FDef := { np := 2, nv := 2, body := [.ret (.call 10 [.prim (.mul) [.prim (.idx) [.bor 0, .con (.int 0)], .prim (.idx) [.bor 1, .con (.int 0)]], .prim (.mul) [.prim (.idx) [.bor 0, .con (.int 1)], .prim (.idx) [.bor 1, .con (.int 1)]]])], ini := false }
def d_law_over : FDef := { np := 2, nv := 3, body := [.asg (.name 2) (.ite (.prim (.gt) [.prim (.idx) [.bor 1, .con (.int 0)], .con (.int 0)]) (.con (.int 1)) (.prim (.neg) [.con (.int 1)])), .ret (.call 10 [.prim (.mul) [.prim (.mul) [.bor 2, .prim (.idx) [.bor 0, .con (.int 0)]], .prim (.idx) [.bor 1, .con (.int 1)]], .prim (.mul) [.prim (.mul) [.bor 2, .prim (.idx) [.bor 0, .con (.int 1)]], .prim (.idx) [.bor 1, .con (.int 0)]]])], ini := false }
def d_is_chance : FDef := { np := 1, nv := 1, body := [.ret (.and (.call 2 [.var 0]) (.chain3 (.le) (.le) (.le) (.con (.int 0)) (.prim (.idx) [.bor 0, .con (.int 0)]) (.prim (.idx) [.bor 0, .con (.int 1)]) (.con (.int 1000))))], ini := false }
def d_are_shares : FDef := { np := 1, nv := 2, body := [.ret (.and (.prim (.isi (.tuple)) [.bor 0]) (.and (.prim (.le) [.prim (.len) [.bor 0], .con (.int 4)]) (.prim (.all) [.lc [1] (.name 1) (.seq) [.var 0] [] (.call 3 [.var 1])])))], ini := false }
def d_law_share : FDef := { np := 1, nv := 3, body := [.asg (.name 1) (.call 6 [.var 0, .con (.int 8)]), .ite (.prim (.lt) [.bor 1, .con (.int 2)]) [.ret (.prim (.idx) [.lst [.tup [.con (.int 0), .con (.int 1)], .tup [.con (.int 1), .con (.int 1)]], .bor 1])] [], .ite (.prim (.lt) [.bor 1, .con (.int 6)]) [.ret (.call 7 [.var 0, .lst [.tup [.con (.int 1), .con (.int 2)], .tup [.con (.int 1), .con (.int 2)], .tup [.con (.int 1), .con (.int 3)], .tup [.con (.int 2), .con (.int 3)], .tup [.con (.int 1), .con (.int 4)], .tup [.con (.int 3), .con (.int 4)], .tup [.con (.int 2), .con (.int 5)], .tup [.con (.int 5), .con (.int 6)]]])] [], .asg (.name 2) (.prim (.add) [.con (.int 2), .call 6 [.var 0, .con (.int 999)]]), .ret (.call 10 [.call 6 [.var 0, .prim (.add) [.bor 2, .con (.int 1)]], .var 2])], ini := false }
def d_is_between : FDef := { np := 3, nv := 3, body := [.ret (.and (.call 0 [.var 0]) (.chain (.le) (.le) (.var 1) (.var 0) (.var 2)))], ini := false }
def d_is_node : FDef := { np := 2, nv := 8, body := [.ite (.or (.not (.prim (.isi (.tuple)) [.bor 1])) (.or (.prim (.ne) [.prim (.len) [.bor 1], .con (.int 2)]) (.not (.prim (.all) [.lc [2] (.name 2) (.seq) [.var 1] [] (.prim (.isi (.tuple)) [.bor 2])])))) [.ret (.con (.bl false))] [], .asg (.tup [3, 4]) (.var 1), .ite (.or (.prim (.gt) [.prim (.len) [.bor 3], .con (.int 6)]) (.not (.prim (.all) [.lc [5] (.name 5) (.seq) [.var 3] [] (.call 34 [.var 5, .con (.int 0), .prim (.sub) [.bor 0, .con (.int 1)]])]))) [.ret (.con (.bl false))] [], .ite (.not (.prim (.all) [.lc [6] (.name 6) (.rng2) [.con (.int 1), .prim (.len) [.bor 3]] [] (.prim (.lt) [.prim (.idx) [.bor 3, .prim (.sub) [.bor 6, .con (.int 1)]], .prim (.idx) [.bor 3, .bor 6]])])) [.ret (.con (.bl false))] [], .ret (.and (.prim (.eq) [.prim (.len) [.bor 4], .prim (.shl) [.con (.int 1), .prim (.len) [.bor 3]]]) (.prim (.all) [.lc [7] (.name 7) (.seq) [.var 4] [] (.call 3 [.var 7])]))], ini := false }
def d_is_web : FDef := { np := 1, nv := 7, body := [.ite (.or (.not (.prim (.isi (.tuple)) [.bor 0])) (.or (.prim (.ne) [.prim (.len) [.bor 0], .con (.int 3)]) (.not (.prim (.all) [.lc [1] (.name 1) (.seq) [.var 0] [] (.prim (.isi (.tuple)) [.bor 1])])))) [.ret (.con (.bl false))] [], .asg (.tup [2, 3, 4]) (.var 0), .ite (.or (.prim (.gt) [.prim (.len) [.bor 2], .con (.int 400)]) (.not (.prim (.all) [.lc [5, 6] (.tup [5, 6]) (.enm) [.var 2] [] (.call 190 [.var 5, .var 6])]))) [.ret (.con (.bl false))] [], .ite (.or (.not (.chain (.le) (.le) (.con (.int 1)) (.prim (.len) [.bor 3]) (.con (.int 4)))) (.prim (.gt) [.prim (.len) [.bor 4], .con (.int 400)])) [.ret (.con (.bl false))] [], .ret (.prim (.all) [.lc [5] (.name 5) (.seq) [.prim (.add) [.bor 3, .bor 4]] [] (.call 34 [.var 5, .con (.int 0), .prim (.sub) [.prim (.len) [.bor 2], .con (.int 1)]])])], ini := false }
def d_law_mixed : FDef := { np := 2, nv := 4, body := [.par [2, 3] [.prim (.list) [.bor 1], .lst []], .while (.prim (.gt) [.prim (.len) [.bor 2], .con (.int 0)]) [.app 3 (.popAt 2 (.call 6 [.var 0, .prim (.len) [.bor 2]]))], .ret (.var 3)], ini := false }
def d_law_draw_web : FDef := { np := 1, nv := 10, body := [.par [1, 2] [.prim (.add) [.con (.int 1), .call 6 [.var 0, .con (.int 7)]], .lst []], .for (.name 3) (.rng1) [.bor 1] [.asg (.name 4) (.prim (.tuple) [.prim (.sorted) [.prim (.slc false true) [.call 85 [.var 0, .prim (.listR) [.bor 3]], .call 6 [.var 0, .con (.int 4)]]]]), .app 2 (.tup [.var 4, .prim (.tuple) [.lc [5] (.name 5) (.rng1) [.prim (.shl) [.con (.int 1), .prim (.len) [.bor 4]]] [] (.call 11 [.var 0])]])], .asg (.name 7) (.prim (.tuple) [.lc [6] (.name 6) (.rng1) [.prim (.add) [.con (.int 1), .call 6 [.var 0, .con (.int 4)]]] [] (.call 6 [.var 0, .var 1])]), .asg (.name 9) (.prim (.tuple) [.lc [8] (.name 8) (.rng1) [.call 6 [.var 0, .con (.int 3)]] [] (.call 6 [.var 0, .var 1])]), .ret (.tup [.prim (.tuple) [.bor 2], .var 7, .var 9])], ini := false }
end IP

set_option Elab.async false
set_option linter.all false
set_option maxRecDepth 100000
namespace IP
open PySem
/-! ### small facts -/
theorem log2_lt {n k : Nat} (h : n < 2 ^ k) (hk : 0 < k) : n.log2 < k := by
  rcases Nat.eq_zero_or_pos n with z | z
  · subst z; simpa using hk
  · exact (Nat.log2_lt (by omega)).mpr h
theorem mulOk_small {i j : Int} (hi : i.natAbs < 2 ^ 64) (hj : j.natAbs < 2 ^ 64) : mulOk i j = true := by
  have := log2_lt hi (by decide)
  have := log2_lt hj (by decide)
  unfold mulOk
  exact decide_eq_true (by omega)
theorem divOk_small {j : Int} (h : 0 < j) (hj : j < 2 ^ 64) : divOk j = true := by
  have := log2_lt (n := j.natAbs) (k := 64) (by omega) (by decide)
  unfold divOk
  rw [decide_eq_true h, decide_eq_true (by omega)]
  rfl
/-! ### the hand that draws -/
/-- a hand that has drawn at most b numbers of its own -/
structure Hand (b : Nat) (h : List D) : Prop where
  ex : ∃ (cells : List Int) (p q r c : Int), h = [.lst (cells.map D.int), .int p, .int q, .int r, .int c] ∧ (∀ x ∈ cells, 0 ≤ x) ∧ 0 ≤ p ∧ 0 ≤ q ∧ 0 ≤ r ∧ r < 2147483647 ∧ 0 ≤ c ∧ c ≤ b
theorem Hand.mono {b b' : Nat} {h : List D} (H : Hand b h) (hb : b ≤ b') : Hand b' h := by
  obtain ⟨cells, p, q, r, c, h1, h2, h3, h4, h5, h6, h7, h8⟩ := H.ex
  exact ⟨cells, p, q, r, c, h1, h2, h3, h4, h5, h6, h7, by omega⟩
theorem emod_lt' {a b : Int} (h : 0 < b) : 0 ≤ a % b ∧ a % b < b := ⟨Int.emod_nonneg _ (by omega), Int.emod_lt_of_pos _ h⟩
theorem mul_lt64 {a b : Int} (ha : 0 ≤ a) (hb : 0 ≤ b) (h1 : a < 2 ^ 31) (h2 : b < 2 ^ 31) : 0 ≤ a * b ∧ a * b < 2 ^ 62 := by
  refine ⟨Int.mul_nonneg ha hb, ?_⟩
  have : a * b ≤ (2 ^ 31 - 1) * (2 ^ 31 - 1) := Int.mul_le_mul (by omega) (by omega) hb (by decide)
  have e : ((2 : Int) ^ 31 - 1) * (2 ^ 31 - 1) < 2 ^ 62 := by decide
  omega
section
variable {T : Tab} {N : Nat}
theorem hand_ok (h5 : T.fns.lookup 5 = some d_law_hand) {k : Nat} (hk : 1 ≤ k) (ns : List Int) (hl : ns.length ≤ 63) : ∃ h, callN T N k 5 [.scr ns] [] = .ok (.ref 0) false [.lst h] ∧ Hand 0 h := by
  have hc : cutD (ns.map D.int) none (some 63) = ns.map D.int := by
    unfold cutD
    rw [show HT.sIx (ns.map D.int).length 0 none = 0 from rfl, show HT.sIx (ns.map D.int).length (ns.map D.int).length (some 63) = min 63 (ns.map D.int).length from HT.sIx_nat _ _ 63]
    rw [List.drop_zero, List.take_of_length_le]
    rw [List.length_map]
    omega
  have key := lc_map (C := callN T N (k - 1)) (own := [1]) (t := .name 1) (y := .prim .abs [.prim .int [.bor 1]]) (e := [.val (.scr ns), .none, .none]) (s := []) (fun d => match d with | .int i => .int (if i < 0 then -i else i) | d => d) rfl (ns.map D.int) (by rw [List.length_map]; omega) (fun x hx => by
    obtain ⟨i, _, rfl⟩ := List.mem_map.mp hx
    refine ⟨[.val (.scr ns), .val (.int i), .none], ?_, rfl⟩
    simp [wipeI])
  refine ⟨[.lst ((ns.map fun i => if i < 0 then -i else i).map D.int), .int 0, .int 0, .int (31 + 7 * ns.length), .int 0], ?_, ⟨ns.map (fun i => if i < 0 then -i else i), 0, 0, 31 + 7 * ns.length, 0, rfl, ?_, by omega, by omega, by omega, by omega, by omega, by omega⟩⟩
  · have hm : mulOk 7 (ns.length : Int) = true := mulOk_small (by decide) (by omega)
    rw [call_eq h5 hk _ rfl]
    simp [d_law_hand, startI, hc, key, hm]
  · intro x hx
    obtain ⟨i, _, rfl⟩ := List.mem_map.mp hx
    split <;> omega
theorem draw_ok (h6 : T.fns.lookup 6 = some d_law_draw) {k : Nat} (hk : 1 ≤ k) {st : Sto} {j b : Nat} {h : List D} (hj : st[j]? = some (.lst h)) (H : Hand b h) (hb : b ≤ 10 ^ 15) {m : Int} (hm : 0 < m) (hd : divOk m = true) :
    ∃ (v : Int) (h' : List D), callN T N k 6 [.ref j, .int m] st = .ok (.int v) false (st.set j (.lst h')) ∧ 0 ≤ v ∧ v < m ∧ Hand (b + 1) h' := by
  obtain ⟨cells, p, q, r, c, rfl, h2, h3, h4, h5, h6', h7, h8⟩ := H.ex
  have hjl : j < st.length := (List.getElem?_eq_some_iff.mp hj).1
  have hd32 : divOk 32 = true := by decide
  have hd1 : divOk 1013 = true := by decide
  have hd2 : divOk 2011 = true := by decide
  -- the end, from any hand whose digits are used up
  have last : ∀ (st : Sto) (p q r c : Int) (x : Slot), j < st.length → st[j]? = some (.lst [.lst (cells.map D.int), .int p, .int q, .int r, .int c]) → 0 ≤ p → q = 0 → 0 ≤ r → r < 2147483647 → 0 ≤ c → c ≤ b →
      ∃ (v : Int) (h' : List D), fin (evalSs (callN T N (k - 1)) T.sub N (d_law_draw.body.drop 1) [.val (.ref j), .val (.int m), x, .none, .none] st) = .ok (.int v) false (st.set j (.lst h')) ∧ 0 ≤ v ∧ v < m ∧ Hand (b + 1) h' := by
    intro st p q r c x hjl hj hp hq hr1 hr2 hc1 hc2
    subst hq
    have m1 : mulOk 6007 (c + 1) = true := mulOk_small (by decide) (by omega)
    have m2 : mulOk (r + 6007 * (c + 1)) 69621 = true := mulOk_small (by omega) (by decide)
    obtain ⟨g1, g2⟩ := emod_lt' (a := (r + 6007 * (c + 1)) * 69621) (b := 2147483629) (by decide)
    have m3 : mulOk ((r + 6007 * (c + 1)) * 69621 % 2147483629) ((r + 6007 * (c + 1)) * 69621 % 2147483629 / 1013 + 48271) = true := mulOk_small (by omega) (by omega)
    generalize hn1 : (r + 6007 * (c + 1)) * 69621 % 2147483629 = n1 at *
    obtain ⟨g3, g4⟩ := emod_lt' (a := n1 * (n1 / 1013 + 48271)) (b := 2147483647) (by decide)
    have m4 : mulOk (n1 * (n1 / 1013 + 48271) % 2147483647) (n1 * (n1 / 1013 + 48271) % 2147483647 / 2011 + 16807) = true := mulOk_small (by omega) (by omega)
    generalize hn2 : n1 * (n1 / 1013 + 48271) % 2147483647 = n2 at *
    obtain ⟨g5, g6⟩ := emod_lt' (a := n2 * (n2 / 2011 + 16807) % 2147483587 / 32) hm
    refine ⟨n2 * (n2 / 2011 + 16807) % 2147483587 / 32 % m, [.lst (cells.map D.int), .int p, .int 0, .int r, .int (c + 1)], ?_, g5, g6, ⟨cells, p, 0, r, c + 1, rfl, h2, hp, by omega, hr1, hr2, by omega, by omega⟩⟩
    have hset : ∀ v : Bx, (st.set j v)[j]? = some v := fun v => List.getElem?_set_self hjl
    simp [d_law_draw, hj, m1, m2, m3, m4, hd32, hd1, hd2, hm, hset, L2.ixN, hn1, hn2]
  have hset : ∀ v : Bx, (st.set j v)[j]? = some v := fun v => List.getElem?_set_self hjl
  have hset2 : ∀ v w : Bx, ((st.set j v).set j w)[j]? = some w := fun v w => List.getElem?_set_self (by rw [List.length_set]; exact hjl)
  rw [call_eq h6 hk _ rfl]
  -- where digits are left
  have digit : ∀ (st0 : Sto) (p q r c : Int) (x : Slot), st0.length = st.length → (∀ v, st0.set j v = st.set j v) → st0[j]? = some (.lst [.lst (cells.map D.int), .int p, .int q, .int r, .int c]) → 0 ≤ p → 0 ≤ q → 0 ≤ r → r < 2147483647 → 0 ≤ c → c ≤ b →
      ∃ (v : Int) (h' : List D), fin (evalSs (callN T N (k - 1)) T.sub N (d_law_draw.body.drop 1) [.val (.ref j), .val (.int m), x, .none, .none] st0) = .ok (.int v) false (st.set j (.lst h')) ∧ 0 ≤ v ∧ v < m ∧ Hand (b + 1) h' := by
    intro st0 p q r c x hl0 hs0 hj0 hp hq hr1 hr2 hc1 hc2
    by_cases hq0 : q = 0
    · obtain ⟨v, h', e1, e2⟩ := last st0 p q r c x (by omega) hj0 hp hq0 hr1 hr2 hc1 hc2
      exact ⟨v, h', by rw [e1, hs0], e2⟩
    · obtain ⟨g5, g6⟩ := emod_lt' (a := q) hm
      refine ⟨q % m, [.lst (cells.map D.int), .int p, .int (q / m), .int r, .int c], ?_, g5, g6, ⟨cells, p, q / m, r, c, rfl, h2, hp, Int.ediv_nonneg hq (by omega), hr1, hr2, hc1, by omega⟩⟩
      have hq1 : 0 < q := by omega
      simp [d_law_draw, hj0, hd, hm, L2.ixN, hq1, hs0]
  by_cases hc0 : q = 0 ∧ p < cells.length
  · obtain ⟨rfl, hp⟩ := hc0
    have hpn : p.toNat < cells.length := by omega
    have hpe : ((p.toNat : Nat) : Int) = p := by omega
    have hat : atD (cells.map D.int) p = some (.int cells[p.toNat]) := by
      have := atD_nat (cells.map D.int) p.toNat
      rw [hpe, List.getElem?_map, List.getElem?_eq_getElem hpn] at this
      exact this
    have hx := h2 _ (List.getElem_mem hpn)
    generalize cells[p.toNat] = x at *
    obtain ⟨g1, g2⟩ := emod_lt' (a := r * 48271 + x + 11) (b := 2147483647) (by decide)
    have m1 : mulOk r 48271 = true := mulOk_small (by omega) (by decide)
    have pw : powOk 10 18 = true := by decide
    by_cases hbig : (1000000000000000000 : Int) ≤ x
    · obtain ⟨v, h', e1, e2⟩ := digit (st.set j (.lst [.lst (cells.map D.int), .int (p + 1), .int x, .int ((r * 48271 + x + 11) % 2147483647), .int c])) (p + 1) x ((r * 48271 + x + 11) % 2147483647) c (.val (.int x)) (by rw [List.length_set]) (fun v => List.set_set ..) (hset _) (by omega) hx g1 g2 h7 h8
      refine ⟨v, h', ?_, e2⟩
      rw [← e1]
      simp [d_law_draw, startI, hj, hat, hset, hp, L2.ixN, m1, pw, hbig]
    · obtain ⟨v, h', e1, e2⟩ := digit (st.set j (.lst [.lst (cells.map D.int), .int (p + 1), .int 0, .int ((r * 48271 + x + 11) % 2147483647), .int c])) (p + 1) 0 ((r * 48271 + x + 11) % 2147483647) c (.val (.int x)) (by rw [List.length_set]) (fun v => List.set_set ..) (hset _) (by omega) (by omega) g1 g2 h7 h8
      refine ⟨v, h', ?_, e2⟩
      rw [← e1]
      simp [d_law_draw, startI, hj, hat, hset, hp, L2.ixN, m1, pw, hbig]
  · obtain ⟨v, h', e1, e2⟩ := digit st p q r c .none rfl (fun _ => rfl) hj h3 h4 h5 h6' h7 h8
    refine ⟨v, h', ?_, e2⟩
    rw [← e1]
    by_cases hq : q = 0
    · have hp : ¬ p < cells.length := fun z => hc0 ⟨hq, z⟩
      subst hq
      simp [d_law_draw, startI, hj, hp]
    · simp [d_law_draw, startI, hj, hq]
end
end IP

set_option Elab.async false
set_option linter.all false
set_option maxRecDepth 100000
namespace IP
open PySem
/-! ### Euclid -/
theorem gcd_loop {C : CallF} {sub : Nat → Nat → Option Bool} {N : Nat} {c : E} {body : List S} {rest : EnvI} (hc : ∀ (a b : Int) (st : Sto), evalE C c (.val (.int a) :: .val (.int b) :: rest) st = .ok (pv (.bl (decide (0 < b)))) (.val (.int a) :: .val (.int b) :: rest) st)
    (hb : ∀ (a b : Int) (st : Sto), 0 < b → evalSs C sub N body (.val (.int a) :: .val (.int b) :: rest) st = .ok .nx (.val (.int b) :: .val (.int (a % b)) :: rest) st) (st : Sto) :
    ∀ (j n a b : Nat), b < 2 ^ j → 2 * j + 1 ≤ n → whl C sub N c body n (.val (.int a) :: .val (.int b) :: rest) st = .ok .nx (.val (.int (Nat.gcd a b)) :: .val (.int 0) :: rest) st := by
  intro j
  induction j with
  | zero =>
    intro n a b h1 h2
    have : b = 0 := by simpa using h1
    subst this
    obtain ⟨n, rfl⟩ : ∃ k, n = k + 1 := ⟨n - 1, by omega⟩
    rw [whl_succ, hc]
    simp
  | succ j ih =>
    intro n a b h1 h2
    obtain ⟨n, rfl⟩ : ∃ k, n = k + 2 := ⟨n - 2, by omega⟩
    rw [whl_succ, hc]
    rcases Nat.eq_zero_or_pos b with z | z
    · subst z; simp
    · have zi : (0 : Int) < (b : Int) := by omega
      simp only [Res.bind_ok, kW1_, pv_1, asB_bl, onB_some, decide_eq_true zi, if_true, kW2_, hb _ _ _ zi, kFl_, flF_nx]
      rw [whl_succ, hc, ← Int.natCast_emod]
      rcases Nat.eq_zero_or_pos (a % b) with y | y
      · have hg : Nat.gcd a b = b := by rw [Nat.gcd_comm, Nat.gcd_rec, y]; exact Nat.gcd_zero_left _
        rw [y, hg]
        simp
      · have yi : (0 : Int) < ((a % b : Nat) : Int) := by omega
        simp only [Res.bind_ok, kW1_, pv_1, asB_bl, onB_some, decide_eq_true yi, if_true, kW2_, hb _ _ _ yi, kFl_, flF_nx]
        rw [← Int.natCast_emod]
        have hlt : a % b < b := Nat.mod_lt _ z
        have hlt2 : b % (a % b) < a % b := Nat.mod_lt _ y
        have hle : b % (a % b) + (a % b) ≤ b := by
          have := Nat.div_add_mod b (a % b)
          have hd : 1 ≤ b / (a % b) := (Nat.one_le_div_iff y).mpr (by omega)
          have : (a % b) * 1 ≤ (a % b) * (b / (a % b)) := Nat.mul_le_mul_left _ hd
          omega
        rw [ih n (a % b) (b % (a % b)) (by rw [Nat.pow_succ] at h1; omega) (by omega)]
        have hg : Nat.gcd (a % b) (b % (a % b)) = Nat.gcd a b := by
          rw [Nat.gcd_comm (a % b), ← Nat.gcd_rec, ← Nat.gcd_rec, Nat.gcd_comm]
        rw [hg]
section
variable {T : Tab} {N : Nat}
theorem common_ok (h1 : T.fns.lookup 1 = some d_common) {k : Nat} (hk : 1 ≤ k) {a b : Nat} {j : Nat} (hb : b < 2 ^ j) (hj : 2 * j + 1 ≤ N) (st : Sto) : callN T N k 1 [.int a, .int b] st = .ok (.int (Nat.gcd a b)) false st := by
  rw [call_eq h1 hk _ rfl]
  have key := gcd_loop (C := callN T N (k - 1)) (sub := T.sub) (N := N) (c := .prim .gt [.bor 1, .con (.int 0)]) (body := [.par [0, 1] [.var 1, .prim .mod [.bor 0, .bor 1]]]) (rest := []) (fun a b st => by simp) (fun a b st h => by simp [h]) st j N a b hb hj
  simp [d_common, startI, key]
theorem lcommon_ok (h9 : T.fns.lookup 9 = some d_law_common) {k : Nat} (hk : 1 ≤ k) {a b : Nat} {j : Nat} (hb : b < 2 ^ j) (hj : 2 * j + 1 ≤ N) (st : Sto) : callN T N k 9 [.int a, .int b] st = .ok (.int (Nat.gcd a b)) false st := by
  rw [call_eq h9 hk _ rfl]
  have key := gcd_loop (C := callN T N (k - 1)) (sub := T.sub) (N := N) (c := .prim .gt [.bor 1, .con (.int 0)]) (body := [.par [0, 1] [.var 1, .prim .mod [.prim .int [.bor 0], .bor 1]]]) (rest := []) (fun a b st => by simp) (fun a b st h => by simp [h]) st j N a b hb hj
  simp [d_law_common, startI, key]
theorem cast_beq1 (n : Nat) : ((n : Int) == 1) = (n == 1) := by
  rw [Bool.eq_iff_iff]; simp; omega
/-! ### what is a fraction -/
def okD : D → Bool
  | .scr _ => false
  | .ref _ => false
  | _ => true
def isIntD : D → Bool
  | .int _ => true
  | _ => false
theorem is_integer_ok (h0 : T.fns.lookup 0 = some d_is_integer) {k : Nat} (hk : 1 ≤ k) (d : D) (hd : okD d = true) (st : Sto) : callN T N k 0 [d] st = .ok (.bl (isIntD d)) false st := by
  rw [call_eq h0 hk _ rfl]
  cases d <;> first | cases hd; done | simp [d_is_integer, startI, isiD, isIntD]
/-- a pair of two things -/
def okT : D → Bool
  | .tup xs => xs.all okD && decide (xs.length ≤ 1000)
  | d => okD d
def isFracD : D → Bool
  | .tup [.int a, .int b] => decide (0 < b) && (Nat.gcd a.natAbs b.natAbs == 1)
  | _ => false
theorem is_fraction_ok (h0 : T.fns.lookup 0 = some d_is_integer) (h1 : T.fns.lookup 1 = some d_common) (h2 : T.fns.lookup 2 = some d_is_fraction) {k : Nat} (hk : 2 ≤ k) {j : Nat} (hj : 2 * j + 1 ≤ N) (d : D) (hd : okT d = true) (hs : ∀ a b, d = .tup [.int a, .int b] → b < 2 ^ j) (st : Sto) :
    callN T N k 2 [d] st = .ok (.bl (isFracD d)) false st := by
  rw [call_eq h2 (by omega) _ rfl]
  by_cases ht : ∃ xs, d = .tup xs
  · obtain ⟨xs, rfl⟩ := ht
    have hd : (xs.all okD && decide (xs.length ≤ 1000)) = true := hd
    rw [Bool.and_eq_true] at hd
    have hl : xs.length ≤ 1000 := of_decide_eq_true hd.2
    have key := lc_map (C := callN T N (k - 1)) (own := [1]) (t := .name 1) (y := .call 0 [.var 1]) (e := [.val (.tup xs), .none]) (s := st) (fun d => .bl (isIntD d)) rfl xs (by omega) (fun x hx => by
      refine ⟨[.val (.tup xs), .val x], ?_, rfl⟩
      have := is_integer_ok (N := N) h0 (k := k - 1) (by omega) x (List.all_eq_true.mp hd.1 x hx) st
      simp [wipeI, this])
    by_cases h2l : xs.length = 2
    · obtain ⟨x, y, rfl⟩ : ∃ x y, xs = [x, y] := by
        match xs, h2l with
        | [x, y], _ => exact ⟨x, y, rfl⟩
      by_cases hi : (∃ a, x = .int a) ∧ ∃ b, y = .int b
      · obtain ⟨⟨a, rfl⟩, b, rfl⟩ := hi
        by_cases hb : 0 < b
        · have hcall : callN T N (k - 1) 1 [.int (if a < 0 then -a else a), .int b] st = .ok (.int (Nat.gcd a.natAbs b.natAbs)) false st := by
            have := common_ok h1 (k := k - 1) (by omega) (a := a.natAbs) (b := b.natAbs) (j := j) (by have := hs a b rfl; have e : ((2 ^ j : Nat) : Int) = 2 ^ j := (by norm_cast); omega) hj st
            rw [show ((b.natAbs : Nat) : Int) = b by omega, show ((a.natAbs : Nat) : Int) = if a < 0 then -a else a by split <;> omega] at this
            exact this
          simp [d_is_fraction, startI, isiD, key, isIntD, blsD, isFracD, hb, hcall, cast_beq1]
        · simp [d_is_fraction, startI, isiD, key, isIntD, blsD, isFracD, hb]
      · have e1 : ([x, y].map fun d => D.bl (isIntD d)) = [.bl (isIntD x), .bl (isIntD y)] := rfl
        have e2 : (isIntD x && isIntD y) = false := by
          cases x <;> cases y <;> first | rfl | exact absurd ⟨⟨_, rfl⟩, _, rfl⟩ hi
        have e3 : isFracD (.tup [x, y]) = false := by
          cases x <;> cases y <;> first | rfl | exact absurd ⟨⟨_, rfl⟩, _, rfl⟩ hi
        simp [d_is_fraction, startI, isiD, key, blsD, e3]
        rw [Bool.and_eq_false_iff] at e2
        rcases e2 with e2 | e2 <;> simp [e2]
    · have e3 : isFracD (.tup xs) = false := by
        match xs, h2l with
        | [], _ => rfl
        | [_], _ => cases ‹D› <;> rfl
        | [_, _], h => exact absurd rfl h
        | _ :: _ :: _ :: _, _ => unfold isFracD; split <;> first | rfl | (rename_i z; cases z)
      have : ¬ ((xs.length : Int) = 2) := by omega
      simp [d_is_fraction, startI, isiD, e3, this]
  · have e3 : isFracD d = false := by
      cases d <;> first | rfl | exact absurd ⟨_, rfl⟩ ht
    cases d <;> first | exact absurd ⟨_, rfl⟩ ht | cases hd; done | simp [d_is_fraction, startI, isiD, e3]
/-! ### what is a share -/
def isChD : D → Bool
  | .tup [.int a, .int b] => decide (0 < b) && (Nat.gcd a.natAbs b.natAbs == 1) && (decide (0 ≤ a) && (decide (a ≤ b) && decide (b ≤ 1000)))
  | _ => false
theorem frac_pair {d : D} (h : isFracD d = true) : ∃ a b, d = .tup [.int a, .int b] := by
  unfold isFracD at h
  split at h
  · exact ⟨_, _, rfl⟩
  · cases h
theorem is_chance_ok (h0 : T.fns.lookup 0 = some d_is_integer) (h1 : T.fns.lookup 1 = some d_common) (h2 : T.fns.lookup 2 = some d_is_fraction) (h3 : T.fns.lookup 3 = some d_is_chance) {k : Nat} (hk : 3 ≤ k) {j : Nat} (hj : 2 * j + 1 ≤ N) (d : D) (hd : okT d = true) (hs : ∀ a b, d = .tup [.int a, .int b] → b < 2 ^ j) (st : Sto) :
    callN T N k 3 [d] st = .ok (.bl (isChD d)) false st := by
  rw [call_eq h3 (by omega) _ rfl]
  have hf := is_fraction_ok h0 h1 h2 (k := k - 1) (by omega) hj d hd hs st
  by_cases hp : ∃ a b, d = .tup [.int a, .int b]
  · obtain ⟨a, b, rfl⟩ := hp
    by_cases hx : isFracD (.tup [.int a, .int b]) = true
    · have hy : (decide (0 < b) && (Nat.gcd a.natAbs b.natAbs == 1)) = true := hx
      simp [d_is_chance, startI, hf, hx, isChD, hy]
    · have hy : (decide (0 < b) && (Nat.gcd a.natAbs b.natAbs == 1)) = false := Bool.eq_false_iff.mpr hx
      have hx : isFracD (.tup [.int a, .int b]) = false := by simpa using hx
      simp [d_is_chance, startI, hf, hx, isChD, hy]
  · have e1 : isFracD d = false := by
      cases e : isFracD d with
      | false => rfl
      | true => exact absurd (frac_pair e) hp
    have e2 : isChD d = false := by
      unfold isChD
      split
      · exact absurd ⟨_, _, rfl⟩ hp
      · rfl
    simp [d_is_chance, startI, hf, e1, e2]
def areShD : D → Bool
  | .tup xs => decide (xs.length ≤ 4) && xs.all isChD
  | _ => false
theorem are_shares_ok (h0 : T.fns.lookup 0 = some d_is_integer) (h1 : T.fns.lookup 1 = some d_common) (h2 : T.fns.lookup 2 = some d_is_fraction) (h3 : T.fns.lookup 3 = some d_is_chance) (h4 : T.fns.lookup 4 = some d_are_shares) {k : Nat} (hk : 4 ≤ k) {j : Nat} (hj : 2 * j + 1 ≤ N) (d : D) (hd : okD d = true) (hs : ∀ xs, d = .tup xs → ∀ x ∈ xs, okT x = true ∧ ∀ a b, x = .tup [.int a, .int b] → b < 2 ^ j) (st : Sto) :
    callN T N k 4 [d] st = .ok (.bl (areShD d)) false st := by
  rw [call_eq h4 (by omega) _ rfl]
  by_cases ht : ∃ xs, d = .tup xs
  · obtain ⟨xs, rfl⟩ := ht
    by_cases hl : xs.length ≤ 4
    · have key := lc_map (C := callN T N (k - 1)) (own := [1]) (t := .name 1) (y := .call 3 [.var 1]) (e := [.val (.tup xs), .none]) (s := st) (fun d => .bl (isChD d)) rfl xs (by omega) (fun x hx => by
        refine ⟨[.val (.tup xs), .val x], ?_, rfl⟩
        obtain ⟨q1, q2⟩ := hs xs rfl x hx
        have := is_chance_ok h0 h1 h2 h3 (k := k - 1) (by omega) hj x q1 q2 st
        simp [wipeI, this])
      have hi : (xs.length : Int) ≤ 4 := by omega
      simp [d_are_shares, startI, isiD, key, blsD_map, areShD, hl, hi]
    · have hi : ¬ (xs.length : Int) ≤ 4 := by omega
      simp [d_are_shares, startI, isiD, areShD, hl, hi]
  · cases d <;> first | exact absurd ⟨_, rfl⟩ ht | cases hd; done | simp [d_are_shares, startI, isiD, areShD]
end
end IP

set_option Elab.async false
set_option linter.all false
set_option maxRecDepth 100000
namespace IP
open PySem
/-! ### pure data, equal data -/
mutual
/-- no script, no boxed object in it, no list too long -/
def okV : D → Bool
  | .tup xs => decide (xs.length ≤ 16777216) && okVs xs
  | .lst xs => decide (xs.length ≤ 16777216) && okVs xs
  | .scr _ => false
  | .ref _ => false
  | .dct _ _ => false
  | _ => true
def okVs : List D → Bool
  | [] => true
  | x :: xs => okV x && okVs xs
end
mutual
def dep : D → Nat
  | .tup xs => deps xs + 1
  | .lst xs => deps xs + 1
  | _ => 0
def deps : List D → Nat
  | [] => 0
  | x :: xs => max (dep x) (deps xs)
end
mutual
def eqV : D → D → Bool
  | .tup xs, .tup ys => eqVs xs ys
  | .lst xs, .lst ys => eqVs xs ys
  | .non, .non => true
  | .bl a, .bl b => a == b
  | .int a, .int b => a == b
  | .str a, .str b => a == b
  | _, _ => false
def eqVs : List D → List D → Bool
  | [], [] => true
  | x :: xs, y :: ys => eqV x y && eqVs xs ys
  | _, _ => false
end
theorem okVs_all : ∀ {xs : List D}, okVs xs = true → ∀ x ∈ xs, okV x = true
  | [], _, _, h => by cases h
  | y :: ys, h, x, hx => by
    have h : (okV y && okVs ys) = true := h
    rw [Bool.and_eq_true] at h
    rcases List.mem_cons.mp hx with rfl | hx
    · exact h.1
    · exact okVs_all h.2 x hx
theorem okVs_of : ∀ {xs : List D}, (∀ x ∈ xs, okV x = true) → okVs xs = true
  | [], _ => rfl
  | y :: ys, h => by
    show (okV y && okVs ys) = true
    rw [h y List.mem_cons_self, okVs_of fun x hx => h x (List.mem_cons_of_mem _ hx)]
    rfl
theorem okV_ok {d : D} (h : okV d = true) : okD d = true := by cases d <;> first | rfl | cases h
theorem deps_all : ∀ {xs : List D}, ∀ x ∈ xs, dep x ≤ deps xs
  | [], _, h => by cases h
  | y :: ys, x, hx => by
    show dep x ≤ max (dep y) (deps ys)
    rcases List.mem_cons.mp hx with rfl | hx
    · omega
    · have := deps_all x hx
      omega
theorem eqVs_at : ∀ (xs ys : List D), eqVs xs ys = (decide (xs.length = ys.length) && (List.range ys.length).all fun i => eqV (xs[i]?.getD .non) (ys[i]?.getD .non))
  | [], [] => rfl
  | [], y :: ys => by
    show false = _
    simp
  | x :: xs, [] => by
    show false = _
    simp
  | x :: xs, y :: ys => by
    show (eqV x y && eqVs xs ys) = _
    rw [eqVs_at xs ys, List.length_cons, List.length_cons, List.range_succ_eq_map, List.all_cons, List.all_map]
    simp only [List.getElem?_cons_zero, Option.getD_some, Function.comp_def, List.getElem?_cons_succ, Nat.succ_eq_add_one]
    by_cases h : xs.length = ys.length
    · simp [h]
    · simp [h]
mutual
theorem eqV_eq : ∀ {a b : D}, okV b = true → (eqV a b = true ↔ a = b)
  | .tup xs, .tup ys, h => by
    have h : (decide (ys.length ≤ 16777216) && okVs ys) = true := h
    rw [Bool.and_eq_true] at h
    show eqVs xs ys = true ↔ _
    rw [eqVs_eq h.2]
    exact ⟨congrArg D.tup, fun z => by injection z⟩
  | .lst xs, .lst ys, h => by
    have h : (decide (ys.length ≤ 16777216) && okVs ys) = true := h
    rw [Bool.and_eq_true] at h
    show eqVs xs ys = true ↔ _
    rw [eqVs_eq h.2]
    exact ⟨congrArg D.lst, fun z => by injection z⟩
  | .non, .non, _ => by simp [eqV]
  | .bl a, .bl b, _ => by simp [eqV]
  | .int a, .int b, _ => by simp [eqV]
  | .str a, .str b, _ => by simp [eqV]
  | _, .scr _, h => by cases h
  | _, .ref _, h => by cases h
  | _, .dct _ _, h => by cases h
  | .tup xs, .lst ys, h => by simp [eqV]
  | .tup xs, .non, h => by simp [eqV]
  | .tup xs, .bl _, h => by simp [eqV]
  | .tup xs, .int _, h => by simp [eqV]
  | .tup xs, .str _, h => by simp [eqV]
  | .lst xs, .tup ys, h => by simp [eqV]
  | .lst xs, .non, h => by simp [eqV]
  | .lst xs, .bl _, h => by simp [eqV]
  | .lst xs, .int _, h => by simp [eqV]
  | .lst xs, .str _, h => by simp [eqV]
  | .non, .tup _, h => by simp [eqV]
  | .non, .lst _, h => by simp [eqV]
  | .non, .bl _, h => by simp [eqV]
  | .non, .int _, h => by simp [eqV]
  | .non, .str _, h => by simp [eqV]
  | .bl _, .tup _, h => by simp [eqV]
  | .bl _, .lst _, h => by simp [eqV]
  | .bl _, .non, h => by simp [eqV]
  | .bl _, .int _, h => by simp [eqV]
  | .bl _, .str _, h => by simp [eqV]
  | .int _, .tup _, h => by simp [eqV]
  | .int _, .lst _, h => by simp [eqV]
  | .int _, .non, h => by simp [eqV]
  | .int _, .bl _, h => by simp [eqV]
  | .int _, .str _, h => by simp [eqV]
  | .str _, .tup _, h => by simp [eqV]
  | .str _, .lst _, h => by simp [eqV]
  | .str _, .non, h => by simp [eqV]
  | .str _, .bl _, h => by simp [eqV]
  | .str _, .int _, h => by simp [eqV]
  | .dct _ _, .tup _, h => by simp [eqV]
  | .dct _ _, .lst _, h => by simp [eqV]
  | .dct _ _, .non, h => by simp [eqV]
  | .dct _ _, .bl _, h => by simp [eqV]
  | .dct _ _, .int _, h => by simp [eqV]
  | .dct _ _, .str _, h => by simp [eqV]
  | .scr _, .tup _, h => by simp [eqV]
  | .scr _, .lst _, h => by simp [eqV]
  | .scr _, .non, h => by simp [eqV]
  | .scr _, .bl _, h => by simp [eqV]
  | .scr _, .int _, h => by simp [eqV]
  | .scr _, .str _, h => by simp [eqV]
  | .ref _, .tup _, h => by simp [eqV]
  | .ref _, .lst _, h => by simp [eqV]
  | .ref _, .non, h => by simp [eqV]
  | .ref _, .bl _, h => by simp [eqV]
  | .ref _, .int _, h => by simp [eqV]
  | .ref _, .str _, h => by simp [eqV]
theorem eqVs_eq : ∀ {a b : List D}, okVs b = true → (eqVs a b = true ↔ a = b)
  | [], [], _ => by simp [eqVs]
  | [], _ :: _, _ => by simp [eqVs]
  | _ :: _, [], _ => by simp [eqVs]
  | x :: xs, y :: ys, h => by
    have h : (okV y && okVs ys) = true := h
    rw [Bool.and_eq_true] at h
    show (eqV x y && eqVs xs ys) = true ↔ _
    rw [Bool.and_eq_true, eqV_eq h.1, eqVs_eq h.2]
    simp
end
theorem eqV_self {a : D} (h : okV a = true) : eqV a a = true := (eqV_eq h).mpr rfl
section
variable {T : Tab} {N : Nat}
theorem ok_tup {ys : List D} (h : okV (.tup ys) = true) : ys.length ≤ 16777216 ∧ okVs ys = true := by
  unfold okV at h
  rw [Bool.and_eq_true] at h
  exact ⟨of_decide_eq_true h.1, h.2⟩
theorem ok_lst {ys : List D} (h : okV (.lst ys) = true) : ys.length ≤ 16777216 ∧ okVs ys = true := by
  unfold okV at h
  rw [Bool.and_eq_true] at h
  exact ⟨of_decide_eq_true h.1, h.2⟩
theorem kept_lc {k n : Nat} {c : List D → D} (hc : c = .tup ∨ c = .lst) {xs ys : List D} {st : Sto} (ih : ∀ (due told : D) (st : Sto), dep due ≤ n → okV due = true → okV told = true → callN T N k 8 [told, due] st = .ok (.bl (eqV told due)) false st)
    (hdy : deps ys ≤ n) (hl0 : ys.length ≤ 16777216) (hoy : okVs ys = true) (hox : okVs xs = true) (hl : xs.length = ys.length) :
    inBlk [2] (lcGo (lcS (callN T N k) [2] (.name 2) [] (.call 8 [.prim .idx [.bor 0, .bor 2], .prim .idx [.bor 1, .bor 2]])) ((List.range ys.length).map fun i : Nat => D.int (i : Int)) []) [.val (c xs), .val (c ys), .none] st
      = .ok ((List.range ys.length).map fun i => D.bl (eqV (xs[i]?.getD .non) (ys[i]?.getD .non))) [.val (c xs), .val (c ys), .none] st := by
  have key := lc_map (C := callN T N k) (own := [2]) (t := .name 2) (y := .call 8 [.prim .idx [.bor 0, .bor 2], .prim .idx [.bor 1, .bor 2]]) (e := [.val (c xs), .val (c ys), .none]) (s := st)
    (fun d => match d with | .int i => D.bl (eqV (xs[i.toNat]?.getD .non) (ys[i.toNat]?.getD .non)) | d => d) rfl ((List.range ys.length).map fun i : Nat => D.int (i : Int)) (by rw [List.length_map, List.length_range]; exact hl0) (fun x hx => by
      obtain ⟨i, hi, rfl⟩ := List.mem_map.mp hx
      have hi : i < ys.length := List.mem_range.mp hi
      refine ⟨[.val (c xs), .val (c ys), .val (.int i)], ?_, rfl⟩
      have a1 : atD xs (i : Int) = some (xs[i]?.getD .non) := by
        rw [atD_nat, List.getElem?_eq_getElem (by omega)]; rfl
      have a2 : atD ys (i : Int) = some (ys[i]?.getD .non) := by
        rw [atD_nat, List.getElem?_eq_getElem hi]; rfl
      have m1 : ys[i]?.getD .non ∈ ys := by
        rw [List.getElem?_eq_getElem hi]; exact List.getElem_mem hi
      have m2 : xs[i]?.getD .non ∈ xs := by
        rw [List.getElem?_eq_getElem (by omega)]; exact List.getElem_mem (by omega)
      have := ih (ys[i]?.getD .non) (xs[i]?.getD .non) st (Nat.le_trans (deps_all _ m1) hdy) (okVs_all hoy _ m1) (okVs_all hox _ m2)
      rcases hc with rfl | rfl <;> simp [wipeI, a1, a2, this])
  rw [key, List.map_map]
  rfl
theorem kept_t {k n : Nat} {xs ys : List D} {st : Sto} (ih : ∀ (due told : D) (st : Sto), dep due ≤ n → okV due = true → okV told = true → callN T N k 8 [told, due] st = .ok (.bl (eqV told due)) false st) (hdy : deps ys ≤ n) (ho : okV (.tup ys) = true) (hq : okV (.tup xs) = true) :
    fin (evalSs (callN T N k) T.sub N d_law_kept.body (startI d_law_kept [.tup xs, .tup ys]) st) = .ok (.bl (eqVs xs ys)) false st := by
  rw [eqVs_at]
  obtain ⟨hl0, hoy⟩ := ok_tup ho
  obtain ⟨_, hox⟩ := ok_tup hq
  by_cases hl : xs.length = ys.length
  · have key := kept_lc (c := .tup) (.inl rfl) (st := st) ih hdy hl0 hoy hox hl
    have hr := it_rn ys.length (by omega)
    simp [d_law_kept, startI, isiD, hl, hr, key, blsD_map, Function.comp_def]
  · have hl2 : ¬ ((xs.length : Int) = ys.length) := by omega
    simp [d_law_kept, startI, isiD, hl, hl2]
theorem kept_l {k n : Nat} {xs ys : List D} {st : Sto} (ih : ∀ (due told : D) (st : Sto), dep due ≤ n → okV due = true → okV told = true → callN T N k 8 [told, due] st = .ok (.bl (eqV told due)) false st) (hdy : deps ys ≤ n) (ho : okV (.lst ys) = true) (hq : okV (.lst xs) = true) :
    fin (evalSs (callN T N k) T.sub N d_law_kept.body (startI d_law_kept [.lst xs, .lst ys]) st) = .ok (.bl (eqVs xs ys)) false st := by
  rw [eqVs_at]
  obtain ⟨hl0, hoy⟩ := ok_lst ho
  obtain ⟨_, hox⟩ := ok_lst hq
  by_cases hl : xs.length = ys.length
  · have key := kept_lc (c := .lst) (.inr rfl) (st := st) ih hdy hl0 hoy hox hl
    have hr := it_rn ys.length (by omega)
    simp [d_law_kept, startI, isiD, hl, hr, key, blsD_map, Function.comp_def]
  · have hl2 : ¬ ((xs.length : Int) = ys.length) := by omega
    simp [d_law_kept, startI, isiD, hl, hl2]
theorem kept_ok (h8 : T.fns.lookup 8 = some d_law_kept) : ∀ (n k : Nat) (due told : D) (st : Sto), dep due ≤ n → n + 2 ≤ k → okV due = true → okV told = true → callN T N k 8 [told, due] st = .ok (.bl (eqV told due)) false st := by
  intro n
  induction n with
  | zero =>
    intro k due told st hd hk ho hq
    rw [call_eq h8 (by omega) _ rfl]
    cases due <;> first | cases ho; done | (exfalso; simp [dep] at hd; done) | skip
    · cases told <;> first | cases hq; done | simp [d_law_kept, startI, isiD, eqV]
    · rename_i b
      cases told <;> first | cases hq; done | (cases b <;> simp [d_law_kept, startI, isiD, eqV])
    · cases told <;> first | cases hq; done | simp [d_law_kept, startI, isiD, eqV]
    · cases told <;> first | cases hq; done | simp [d_law_kept, startI, isiD, eqV]
  | succ n ih =>
    intro k due told st hd hk ho hq
    by_cases hz : dep due ≤ n
    · exact ih k due told st hz (by omega) ho hq
    · rw [call_eq h8 (by omega) _ rfl]
      have ih' : ∀ (due told : D) (st : Sto), dep due ≤ n → okV due = true → okV told = true → callN T N (k - 1) 8 [told, due] st = .ok (.bl (eqV told due)) false st := fun due told st h1 h2 h3 => ih (k - 1) due told st h1 (by omega) h2 h3
      cases due <;> first | exact absurd (Nat.zero_le n) hz | skip
      · rename_i ys
        have hdy : deps ys ≤ n := by unfold dep at hd; omega
        cases told <;> first | cases hq; done | simp [d_law_kept, startI, isiD, eqV]; done | skip
        rename_i xs
        rw [kept_t ih' hdy ho hq]
        simp [eqV]
      · rename_i ys
        have hdy : deps ys ≤ n := by unfold dep at hd; omega
        cases told <;> first | cases hq; done | simp [d_law_kept, startI, isiD, eqV]; done | skip
        rename_i xs
        rw [kept_l ih' hdy ho hq]
        simp [eqV]
/-- one of some things -/
theorem some_ok (h6 : T.fns.lookup 6 = some d_law_draw) (h7 : T.fns.lookup 7 = some d_law_some) {k : Nat} (hk : 2 ≤ k) {st : Sto} {j b : Nat} {h : List D} (hj : st[j]? = some (.lst h)) (H : Hand b h) (hb : b ≤ 10 ^ 15) (xs : List D) (hx : 0 < xs.length) (hx2 : xs.length ≤ 10 ^ 9) :
    ∃ (v : D) (h' : List D), callN T N k 7 [.ref j, .lst xs] st = .ok v false (st.set j (.lst h')) ∧ v ∈ xs ∧ Hand (b + 1) h' := by
  obtain ⟨v, h', e1, v1, v2, H'⟩ := draw_ok (N := N) h6 (k := k - 1) (by omega) hj H hb (m := xs.length) (by omega) (divOk_small (by omega) (by omega))
  have hv : v.toNat < xs.length := by omega
  have e : ((v.toNat : Nat) : Int) = v := by omega
  have a1 : atD xs v = some xs[v.toNat] := by
    have := atD_nat xs v.toNat
    rw [e, List.getElem?_eq_getElem hv] at this
    exact this
  refine ⟨xs[v.toNat], h', ?_, List.getElem_mem hv, H'⟩
  rw [call_eq h7 (by omega) _ rfl]
  simp [d_law_some, startI, e1, a1]
theorem part_ok (h9 : T.fns.lookup 9 = some d_law_common) (h10 : T.fns.lookup 10 = some d_law_part) {k : Nat} (hk : 2 ≤ k) {a b j : Nat} (hb0 : 0 < b) (hb : b < 2 ^ j) (hj : 2 * j + 1 ≤ N) (hb2 : b < 2 ^ 64) (st : Sto) :
    callN T N k 10 [.int a, .int b] st = .ok (.tup [.int (a / Nat.gcd a b : Nat), .int (b / Nat.gcd a b : Nat)]) false st := by
  rw [call_eq h10 (by omega) _ rfl]
  have hc := lcommon_ok (N := N) h9 (k := k - 1) (by omega) (a := a) (b := b) hb hj st
  have ha : ¬ ((a : Int) < 0) := by omega
  have hg : 0 < Nat.gcd a b := Nat.gcd_pos_of_pos_right _ hb0
  have hg2 : Nat.gcd a b ≤ b := Nat.gcd_le_right _ hb0
  have hd : divOk (Nat.gcd a b : Nat) = true := divOk_small (by omega) (by omega)
  simp [d_law_part, startI, ha, hc, hd]
end
end IP

set_option Elab.async false
set_option linter.all false
set_option maxRecDepth 100000
namespace IP
open PySem
/-! ### fractions in lowest terms -/
/-- lowest terms -/
def nrm (x y : Int) : Int × Int := (x / (Int.gcd x y : Int), y / (Int.gcd x y : Int))
def fr (p : Int × Int) : D := .tup [.int p.1, .int p.2]
/-- a fraction as the program has it -/
def okF (p : Int × Int) : Prop := 0 < p.2 ∧ Int.gcd p.1 p.2 = 1
theorem nrm_mul {c d k : Int} (hk : 0 < k) (h : Int.gcd c d = 1) : nrm (c * k) (d * k) = (c, d) := by
  have hg : Int.gcd (c * k) (d * k) = k.natAbs := by rw [Int.gcd_mul_right, h, Nat.one_mul]
  unfold nrm
  rw [hg, show ((k.natAbs : Nat) : Int) = k by omega, Int.mul_ediv_cancel _ (by omega), Int.mul_ediv_cancel _ (by omega)]
theorem nrm_eq {x y c d : Int} (hy : 0 < y) (hd : 0 < d) (h : Int.gcd c d = 1) (e : x * d = c * y) : nrm x y = (c, d) := by
  have dv : d ∣ y := by
    have h1 : d ∣ c * y := ⟨x, by rw [← e, Int.mul_comm]⟩
    have h2 : d.natAbs ∣ c.natAbs * y.natAbs := by rw [← Int.natAbs_mul]; exact Int.natAbs_dvd_natAbs.mpr h1
    have h3 : Nat.Coprime d.natAbs c.natAbs := by
      have : Nat.gcd c.natAbs d.natAbs = 1 := h
      rw [Nat.gcd_comm] at this
      exact this
    exact Int.natAbs_dvd_natAbs.mp (h3.dvd_of_dvd_mul_left h2)
  obtain ⟨k, rfl⟩ := dv
  have hk : 0 < k := by
    rcases Int.lt_trichotomy k 0 with z | z | z
    · have := Int.mul_neg_of_pos_of_neg hd z; omega
    · subst z; simp at hy
    · exact z
  have ex : x = c * k := by
    have : x * d = c * k * d := by rw [e, ← Int.mul_assoc, Int.mul_right_comm]
    exact Int.eq_of_mul_eq_mul_right (by omega) this
  subst ex
  rw [Int.mul_comm d k, Int.mul_comm k d]
  exact nrm_mul hk h
theorem nrm_ok {x y : Int} (hy : 0 < y) : okF (nrm x y) ∧ x * (nrm x y).2 = (nrm x y).1 * y := by
  have hg : 0 < (Int.gcd x y : Int) := by
    have : Int.gcd x y ≠ 0 := fun z => by
      have := (Int.gcd_eq_zero_iff.mp z).2
      omega
    omega
  obtain ⟨a, ha⟩ := Int.gcd_dvd_left (a := x) (b := y)
  obtain ⟨b, hb⟩ := Int.gcd_dvd_right (a := x) (b := y)
  generalize hG : Int.gcd x y = G at *
  have e1 : x / (G : Int) = a := by
    rw [ha, Int.mul_ediv_cancel_left _ (by omega)]
  have e2 : y / (G : Int) = b := by
    rw [hb, Int.mul_ediv_cancel_left _ (by omega)]
  have en : nrm x y = (a, b) := by
    unfold nrm
    rw [hG, e1, e2]
  rw [en]
  have hbp : 0 < b := by
    rcases Int.lt_trichotomy b 0 with z | z | z
    · have := Int.mul_neg_of_pos_of_neg hg z; omega
    · subst z; simp at hb; omega
    · exact z
  refine ⟨⟨hbp, ?_⟩, ?_⟩
  · have h1 : Int.gcd (G * a) (G * b) = (G : Int).natAbs * Int.gcd a b := Int.gcd_mul_left ..
    rw [← ha, ← hb, hG] at h1
    have h2 : (G : Int).natAbs = G := by omega
    rw [h2] at h1
    have h3 : 0 < G := by omega
    show Int.gcd a b = 1
    have : G * 1 = G * Int.gcd a b := by omega
    exact (Nat.eq_of_mul_eq_mul_left h3 this).symm
  · show x * b = a * y
    rw [ha, hb, Int.mul_assoc, Int.mul_left_comm, ← Int.mul_assoc]
/-- the same by crosswise products -/
theorem nrm_cross {x y x' y' : Int} (hy : 0 < y) (hy' : 0 < y') (e : x * y' = x' * y) : nrm x y = nrm x' y' := by
  obtain ⟨⟨h1, h2⟩, h3⟩ := nrm_ok (x := x') hy'
  refine nrm_eq hy h1 h2 ?_
  have : x * (nrm x' y').2 * y' = (nrm x' y').1 * y * y' := by
    rw [Int.mul_right_comm, e, Int.mul_right_comm, h3, Int.mul_right_comm]
  exact Int.eq_of_mul_eq_mul_right (by omega) this
theorem nrm_id {p : Int × Int} (h : okF p) : nrm p.1 p.2 = p := nrm_eq h.1 h.1 h.2 rfl
theorem nrm_zero {y : Int} (hy : 0 < y) : nrm 0 y = (0, 1) := nrm_eq hy (by decide) (by decide) (by omega)
theorem okF_zero {p : Int × Int} (h : okF p) (z : p.1 = 0) : p.2 = 1 := by
  have h2 := h.2
  rw [z, Int.gcd_zero_left] at h2
  have := h.1
  omega
theorem nrm_le {x y : Int} (hy : 0 < y) : (nrm x y).1.natAbs ≤ x.natAbs ∧ (nrm x y).2 ≤ y := by
  unfold nrm
  constructor
  · have := Int.natAbs_ediv_le_natAbs x (Int.gcd x y : Int)
    exact this
  · exact Int.ediv_le_self _ (by omega)
theorem isFrac_fr {p : Int × Int} (h : okF p) : isFracD (fr p) = true := by
  show (decide (0 < p.2) && (Nat.gcd p.1.natAbs p.2.natAbs == 1)) = true
  have : Nat.gcd p.1.natAbs p.2.natAbs = 1 := h.2
  rw [decide_eq_true h.1, this]; rfl
/-! ### sizes -/
theorem mulOk_of {i j : Int} (hi : i.natAbs < 2 ^ 2000) (hj : j.natAbs < 2 ^ 2000) : mulOk i j = true := by
  have := log2_lt hi (by decide)
  have := log2_lt hj (by decide)
  unfold mulOk
  exact decide_eq_true (by omega)
theorem divOk_of {j : Int} (h : 0 < j) (hj : j.natAbs < 2 ^ 2000) : divOk j = true := by
  have := log2_lt hj (by decide)
  unfold divOk
  rw [decide_eq_true h, decide_eq_true (by omega)]
  rfl
theorem natAbs_mul_lt {i j : Int} {a b : Nat} (hi : i.natAbs < 2 ^ a) (hj : j.natAbs < 2 ^ b) : (i * j).natAbs < 2 ^ (a + b) := by
  rw [Int.natAbs_mul, Nat.pow_add]
  exact Nat.mul_lt_mul_of_lt_of_lt hi hj
theorem natAbs_add_lt {i j : Int} {a : Nat} (hi : i.natAbs < 2 ^ a) (hj : j.natAbs < 2 ^ a) : (i + j).natAbs < 2 ^ (a + 1) := by
  rw [Nat.pow_succ]
  have := Int.natAbs_add_le i j
  omega
theorem lt_mono {n a b : Nat} (h : n < 2 ^ a) (hab : a ≤ b) : n < 2 ^ b := Nat.lt_of_lt_of_le h (Nat.pow_le_pow_right (by decide) hab)
/-- both parts are small -/
def szF (k : Nat) (p : Int × Int) : Prop := p.1.natAbs < 2 ^ k ∧ p.2.natAbs < 2 ^ k
theorem nrm_sz {x y : Int} {k : Nat} (hy : 0 < y) (h1 : x.natAbs < 2 ^ k) (h2 : y.natAbs < 2 ^ k) : szF k (nrm x y) := by
  obtain ⟨a, b⟩ := nrm_le (x := x) hy
  obtain ⟨⟨c, _⟩, _⟩ := nrm_ok (x := x) hy
  exact ⟨by omega, by omega⟩
section
variable {T : Tab} {N : Nat}
theorem share_nrm (h1 : T.fns.lookup 1 = some d_common) (h18 : T.fns.lookup 18 = some d_share) {k : Nat} (hk : 2 ≤ k) (hN : 4001 ≤ N) {x y : Int} (hy : 0 < y) (hy2 : y.natAbs < 2 ^ 2000) (st : Sto) : callN T N k 18 [.int x, .int y] st = .ok (fr (nrm x y)) false st := by
  rw [call_eq h18 (by omega) _ rfl]
  have hc := common_ok (N := N) h1 (k := k - 1) (by omega) (a := x.natAbs) (b := y.natAbs) (j := 2000) hy2 (by omega) st
  rw [show ((y.natAbs : Nat) : Int) = y by omega, show ((x.natAbs : Nat) : Int) = if x < 0 then -x else x by split <;> omega] at hc
  have hg : 0 < Int.gcd x y := Nat.pos_of_ne_zero fun z => by
    have := (Int.gcd_eq_zero_iff.mp z).2
    omega
  have hg2 : Int.gcd x y ≤ y.natAbs := Nat.le_of_dvd (by omega) (Int.natAbs_dvd_natAbs.mpr (Int.gcd_dvd_right (a := x) (b := y)))
  have hd : divOk (Int.gcd x y : Nat) = true := divOk_of (by omega) (by omega)
  have hc : callN T N (k - 1) 1 [.int (if x < 0 then -x else x), .int y] st = .ok (.int (Int.gcd x y : Nat)) false st := hc
  simp [d_share, startI, hc, hd, fr, nrm]
theorem part_nrm (h9 : T.fns.lookup 9 = some d_law_common) (h10 : T.fns.lookup 10 = some d_law_part) {k : Nat} (hk : 2 ≤ k) (hN : 4001 ≤ N) {x y : Int} (hy : 0 < y) (hy2 : y.natAbs < 2 ^ 2000) (st : Sto) : callN T N k 10 [.int x, .int y] st = .ok (fr (nrm x y)) false st := by
  rw [call_eq h10 (by omega) _ rfl]
  have hc := lcommon_ok (N := N) h9 (k := k - 1) (by omega) (a := x.natAbs) (b := y.natAbs) (j := 2000) hy2 (by omega) st
  rw [show ((y.natAbs : Nat) : Int) = y by omega, show ((x.natAbs : Nat) : Int) = if x < 0 then -x else x by split <;> omega] at hc
  have hg : 0 < Int.gcd x y := Nat.pos_of_ne_zero fun z => by
    have := (Int.gcd_eq_zero_iff.mp z).2
    omega
  have hg2 : Int.gcd x y ≤ y.natAbs := Nat.le_of_dvd (by omega) (Int.natAbs_dvd_natAbs.mpr (Int.gcd_dvd_right (a := x) (b := y)))
  have hd : divOk (Int.gcd x y : Nat) = true := divOk_of (by omega) (by omega)
  have hc : callN T N (k - 1) 9 [.int (if x < 0 then -x else x), .int y] st = .ok (.int (Int.gcd x y : Nat)) false st := hc
  simp [d_law_part, startI, hc, hd, fr, nrm]
/-! ### sums, products, quotients -/
def plusF (p q : Int × Int) : Int × Int := nrm (p.1 * q.2 + q.1 * p.2) (p.2 * q.2)
def timesF (p q : Int × Int) : Int × Int := nrm (p.1 * q.1) (p.2 * q.2)
/-- q is not nought -/
def overF (p q : Int × Int) : Int × Int := if 0 < q.1 then nrm (p.1 * q.2) (p.2 * q.1) else nrm (-p.1 * q.2) (p.2 * -q.1)
theorem pos_mul {a b : Int} (ha : 0 < a) (hb : 0 < b) : 0 < a * b := Int.mul_pos ha hb
theorem plus_ok (h1 : T.fns.lookup 1 = some d_common) (h18 : T.fns.lookup 18 = some d_share) (h20 : T.fns.lookup 20 = some d_plus) {k : Nat} (hk : 3 ≤ k) (hN : 4001 ≤ N) {p q : Int × Int} (hp : okF p) (hq : okF q) (sp : szF 900 p) (sq : szF 900 q) (st : Sto) :
    callN T N k 20 [fr p, fr q] st = .ok (fr (plusF p q)) false st := by
  rw [call_eq h20 (by omega) _ rfl]
  have hpp := pos_mul hp.1 hq.1
  have hs := share_nrm (N := N) h1 h18 (k := k - 1) (by omega) hN (x := p.1 * q.2 + q.1 * p.2) hpp (lt_mono (natAbs_mul_lt sp.2 sq.2) (by decide)) st
  have m1 : mulOk p.1 q.2 = true := mulOk_of (lt_mono sp.1 (by decide)) (lt_mono sq.2 (by decide))
  have m2 : mulOk q.1 p.2 = true := mulOk_of (lt_mono sq.1 (by decide)) (lt_mono sp.2 (by decide))
  have m3 : mulOk p.2 q.2 = true := mulOk_of (lt_mono sp.2 (by decide)) (lt_mono sq.2 (by decide))
  by_cases z : p.1 = 0
  · have e : plusF p q = q := by
      unfold plusF
      rw [z, okF_zero hp z, Int.zero_mul, Int.mul_one, Int.zero_add, Int.one_mul]
      exact nrm_id hq
    rw [e]
    simp [d_plus, startI, fr, z]
  · by_cases z2 : q.1 = 0
    · have e : plusF p q = p := by
        unfold plusF
        rw [z2, okF_zero hq z2, Int.zero_mul, Int.mul_one, Int.add_zero, Int.mul_one]
        exact nrm_id hp
      rw [e]
      simp [d_plus, startI, fr, z, z2]
    · unfold plusF
      simp only [fr] at hs ⊢
      simp [d_plus, startI, z, z2, m1, m2, m3, hs]
theorem times_ok (h1 : T.fns.lookup 1 = some d_common) (h18 : T.fns.lookup 18 = some d_share) (h21 : T.fns.lookup 21 = some d_times) {k : Nat} (hk : 3 ≤ k) (hN : 4001 ≤ N) {p q : Int × Int} (hp : okF p) (hq : okF q) (sp : szF 900 p) (sq : szF 900 q) (st : Sto) :
    callN T N k 21 [fr p, fr q] st = .ok (fr (timesF p q)) false st := by
  rw [call_eq h21 (by omega) _ rfl]
  have hpp := pos_mul hp.1 hq.1
  have hs := share_nrm (N := N) h1 h18 (k := k - 1) (by omega) hN (x := p.1 * q.1) hpp (lt_mono (natAbs_mul_lt sp.2 sq.2) (by decide)) st
  have m1 : mulOk p.1 q.1 = true := mulOk_of (lt_mono sp.1 (by decide)) (lt_mono sq.1 (by decide))
  have m3 : mulOk p.2 q.2 = true := mulOk_of (lt_mono sp.2 (by decide)) (lt_mono sq.2 (by decide))
  by_cases z : p.1 = 0
  · have e : timesF p q = (0, 1) := by
      unfold timesF
      rw [z, Int.zero_mul]
      exact nrm_zero hpp
    rw [e]
    simp [d_times, startI, fr, z]
  · by_cases z2 : q.1 = 0
    · have e : timesF p q = (0, 1) := by
        unfold timesF
        rw [z2, Int.mul_zero]
        exact nrm_zero hpp
      rw [e]
      simp [d_times, startI, fr, z, z2]
    · unfold timesF
      simp only [fr] at hs ⊢
      simp [d_times, startI, z, z2, m1, m3, hs]
theorem over_ok (h1 : T.fns.lookup 1 = some d_common) (h18 : T.fns.lookup 18 = some d_share) (h22 : T.fns.lookup 22 = some d_over) {k : Nat} (hk : 3 ≤ k) (hN : 4001 ≤ N) {a b c d : Int} (hb : 0 < b) (hc : 0 < c) (sp : szF 900 (a, b)) (sq : szF 900 (c, d)) (st : Sto) :
    callN T N k 22 [.tup [.int a, .int b], .tup [.int c, .int d]] st = .ok (fr (nrm (a * d) (b * c))) false st := by
  rw [call_eq h22 (by omega) _ rfl]
  have hs := share_nrm (N := N) h1 h18 (k := k - 1) (by omega) hN (x := a * d) (pos_mul hb hc) (lt_mono (natAbs_mul_lt sp.2 sq.1) (by decide)) st
  have m1 : mulOk a d = true := mulOk_of (lt_mono sp.1 (by decide)) (lt_mono sq.2 (by decide))
  have m3 : mulOk b c = true := mulOk_of (lt_mono sp.2 (by decide)) (lt_mono sq.1 (by decide))
  simp [d_over, startI, m1, m3, hs, fr]
/-! ### what is no fraction -/
theorem need_yes (h0 : T.fns.lookup 0 = some d_is_integer) (h1 : T.fns.lookup 1 = some d_common) (h2 : T.fns.lookup 2 = some d_is_fraction) (h19 : T.fns.lookup 19 = some d_need_fraction) {k : Nat} (hk : 3 ≤ k) (hN : 4001 ≤ N) {p : Int × Int} (hp : okF p) (sp : szF 2000 p) (st : Sto) :
    callN T N k 19 [fr p] st = .ok .non false st := by
  rw [call_eq h19 (by omega) _ rfl]
  have hf := is_fraction_ok (N := N) h0 h1 h2 (k := k - 1) (by omega) (j := 2000) (by omega) (fr p) rfl (fun a b e => by
    have e : p.1 = a ∧ p.2 = b := by unfold fr at e; simpa using e
    have := sp.2
    have h3 : ((2 ^ 2000 : Nat) : Int) = 2 ^ 2000 := by norm_cast
    have := hp.1
    omega) st
  rw [isFrac_fr hp] at hf
  simp [d_need_fraction, startI, hf]
theorem need_no (h0 : T.fns.lookup 0 = some d_is_integer) (h1 : T.fns.lookup 1 = some d_common) (h2 : T.fns.lookup 2 = some d_is_fraction) (h19 : T.fns.lookup 19 = some d_need_fraction) {k : Nat} (hk : 3 ≤ k) {j : Nat} (hj : 2 * j + 1 ≤ N) {d : D} (hd : okT d = true) (hs : ∀ a b, d = .tup [.int a, .int b] → b < 2 ^ j) (hn : isFracD d = false) (st : Sto) :
    callN T N k 19 [d] st = .err ⟨1, none⟩ st := by
  rw [call_eq h19 (by omega) _ rfl]
  have hf := is_fraction_ok (N := N) h0 h1 h2 (k := k - 1) (by omega) hj d hd hs st
  rw [hn] at hf
  simp [d_need_fraction, startI, hf]
end
end IP

set_option Elab.async false
set_option linter.all false
set_option maxRecDepth 100000
namespace IP
open PySem
section
variable {T : Tab} {N : Nat}
/-- the defs that reckon with fractions -/
structure TF (T : Tab) : Prop where
  h0 : T.fns.lookup 0 = some d_is_integer
  h1 : T.fns.lookup 1 = some d_common
  h2 : T.fns.lookup 2 = some d_is_fraction
  h9 : T.fns.lookup 9 = some d_law_common
  h10 : T.fns.lookup 10 = some d_law_part
  h18 : T.fns.lookup 18 = some d_share
  h19 : T.fns.lookup 19 = some d_need_fraction
  h20 : T.fns.lookup 20 = some d_plus
  h21 : T.fns.lookup 21 = some d_times
  h22 : T.fns.lookup 22 = some d_over
  h23 : T.fns.lookup 23 = some d_added
  h24 : T.fns.lookup 24 = some d_multiplied
  h25 : T.fns.lookup 25 = some d_divided
  h26 : T.fns.lookup 26 = some d_fraction_of
theorem szF.mono {a b : Nat} {p : Int × Int} (h : szF a p) (hab : a ≤ b) : szF b p := ⟨lt_mono h.1 hab, lt_mono h.2 hab⟩
theorem added_ok (t : TF T) {k : Nat} (hk : 4 ≤ k) (hN : 4001 ≤ N) {p q : Int × Int} (hp : okF p) (hq : okF q) (sp : szF 900 p) (sq : szF 900 q) (st : Sto) : callN T N k 23 [fr p, fr q] st = .ok (fr (plusF p q)) false st := by
  rw [call_eq t.h23 (by omega) _ rfl]
  have n1 := need_yes (N := N) t.h0 t.h1 t.h2 t.h19 (k := k - 1) (by omega) hN hp (sp.mono (by decide)) st
  have n2 := need_yes (N := N) t.h0 t.h1 t.h2 t.h19 (k := k - 1) (by omega) hN hq (sq.mono (by decide)) st
  have n3 := plus_ok (N := N) t.h1 t.h18 t.h20 (k := k - 1) (by omega) hN hp hq sp sq st
  simp [d_added, startI, n1, n2, n3]
theorem multiplied_ok (t : TF T) {k : Nat} (hk : 4 ≤ k) (hN : 4001 ≤ N) {p q : Int × Int} (hp : okF p) (hq : okF q) (sp : szF 900 p) (sq : szF 900 q) (st : Sto) : callN T N k 24 [fr p, fr q] st = .ok (fr (timesF p q)) false st := by
  rw [call_eq t.h24 (by omega) _ rfl]
  have n1 := need_yes (N := N) t.h0 t.h1 t.h2 t.h19 (k := k - 1) (by omega) hN hp (sp.mono (by decide)) st
  have n2 := need_yes (N := N) t.h0 t.h1 t.h2 t.h19 (k := k - 1) (by omega) hN hq (sq.mono (by decide)) st
  have n3 := times_ok (N := N) t.h1 t.h18 t.h21 (k := k - 1) (by omega) hN hp hq sp sq st
  simp [d_multiplied, startI, n1, n2, n3]
def divF (p q : Int × Int) : D := if q.1 = 0 then .non else fr (overF p q)
theorem divided_ok (t : TF T) {k : Nat} (hk : 4 ≤ k) (hN : 4001 ≤ N) {p q : Int × Int} (hp : okF p) (hq : okF q) (sp : szF 900 p) (sq : szF 900 q) (st : Sto) : callN T N k 25 [fr p, fr q] st = .ok (divF p q) false st := by
  rw [call_eq t.h25 (by omega) _ rfl]
  have n1 := need_yes (N := N) t.h0 t.h1 t.h2 t.h19 (k := k - 1) (by omega) hN hp (sp.mono (by decide)) st
  have n2 := need_yes (N := N) t.h0 t.h1 t.h2 t.h19 (k := k - 1) (by omega) hN hq (sq.mono (by decide)) st
  by_cases z : q.1 = 0
  · have e : divF p q = .non := if_pos z
    rw [e]
    simp [d_divided, startI, n1, n2, fr] at n1 n2 ⊢
    simp [n1, n2, z]
  · have e : divF p q = fr (overF p q) := if_neg z
    rw [e]
    by_cases y : 0 < q.1
    · have n3 := over_ok (N := N) t.h1 t.h18 t.h22 (k := k - 1) (by omega) hN (a := p.1) (d := q.2) hp.1 y sp sq st
      have e2 : overF p q = nrm (p.1 * q.2) (p.2 * q.1) := if_pos y
      rw [e2]
      simp only [fr] at n1 n2 n3 ⊢
      simp [d_divided, startI, n1, n2, n3, z, y]
    · have n3 := over_ok (N := N) t.h1 t.h18 t.h22 (k := k - 1) (by omega) hN (a := 0 - p.1) (c := 0 - q.1) (d := q.2) hp.1 (by omega) ⟨by have := sp.1; omega, sp.2⟩ ⟨by have := sq.1; omega, sq.2⟩ st
      have e2 : overF p q = nrm ((0 - p.1) * q.2) (p.2 * (0 - q.1)) := by
        unfold overF
        rw [if_neg y, Int.zero_sub, Int.zero_sub]
      rw [e2]
      simp only [fr] at n1 n2 n3 ⊢
      simp [d_divided, startI, n1, n2, n3, z, y]
      simp at n3
      simp [n3]
theorem fraction_of_ok (t : TF T) {k : Nat} (hk : 3 ≤ k) (hN : 4001 ≤ N) {x y : Int} (hy : y ≠ 0) (hy2 : y.natAbs < 2 ^ 2000) (st : Sto) : callN T N k 26 [.int x, .int y] st = .ok (fr (if 0 < y then nrm x y else nrm (-x) (-y))) false st := by
  rw [call_eq t.h26 (by omega) _ rfl]
  have i1 := is_integer_ok (N := N) t.h0 (k := k - 1) (by omega) (.int x) rfl st
  have i2 := is_integer_ok (N := N) t.h0 (k := k - 1) (by omega) (.int y) rfl st
  by_cases h : 0 < y
  · have n3 := share_nrm (N := N) t.h1 t.h18 (k := k - 1) (by omega) hN (x := x) h hy2 st
    simp only [fr] at n3 ⊢
    simp [d_fraction_of, startI, i1, i2, isIntD, hy, h, n3]
  · have n3 := share_nrm (N := N) t.h1 t.h18 (k := k - 1) (by omega) hN (x := -x) (y := -y) (by omega) (by omega) st
    simp only [fr] at n3 ⊢
    simp [d_fraction_of, startI, i1, i2, isIntD, hy, h, n3]
theorem fraction_of_no (t : TF T) {k : Nat} (hk : 3 ≤ k) {x y : D} (hx : okD x = true) (hy : okD y = true) (h : isIntD x = false ∨ isIntD y = false ∨ y = .int 0) (st : Sto) : callN T N k 26 [x, y] st = .err ⟨1, none⟩ st := by
  rw [call_eq t.h26 (by omega) _ rfl]
  have i1 := is_integer_ok (N := N) t.h0 (k := k - 1) (by omega) x hx st
  have i2 := is_integer_ok (N := N) t.h0 (k := k - 1) (by omega) y hy st
  by_cases e1 : isIntD x = false
  · simp [d_fraction_of, startI, i1, i2, e1]
  · have e1 : isIntD x = true := by simpa using e1
    by_cases e2 : isIntD y = false
    · simp [d_fraction_of, startI, i1, i2, e1, e2]
    · rcases h with h | h | h
      · rw [e1] at h; cases h
      · exact absurd h e2
      · subst h
        simp [d_fraction_of, startI, i1, i2, e1, isIntD]
/-! ### the law's own -/
theorem lplus_ok (t : TF T) (h28 : T.fns.lookup 28 = some d_law_plus) {k : Nat} (hk : 3 ≤ k) (hN : 4001 ≤ N) {p q : Int × Int} (hp : 0 < p.2) (hq : 0 < q.2) (sp : szF 900 p) (sq : szF 900 q) (st : Sto) : callN T N k 28 [fr p, fr q] st = .ok (fr (plusF p q)) false st := by
  rw [call_eq h28 (by omega) _ rfl]
  have n3 := part_nrm (N := N) t.h9 t.h10 (k := k - 1) (by omega) hN (x := p.1 * q.2 + q.1 * p.2) (pos_mul hp hq) (lt_mono (natAbs_mul_lt sp.2 sq.2) (by decide)) st
  have m1 : mulOk p.1 q.2 = true := mulOk_of (lt_mono sp.1 (by decide)) (lt_mono sq.2 (by decide))
  have m2 : mulOk q.1 p.2 = true := mulOk_of (lt_mono sq.1 (by decide)) (lt_mono sp.2 (by decide))
  have m3 : mulOk p.2 q.2 = true := mulOk_of (lt_mono sp.2 (by decide)) (lt_mono sq.2 (by decide))
  unfold plusF
  simp only [fr] at n3 ⊢
  simp [d_law_plus, startI, m1, m2, m3, n3]
theorem ltimes_ok (t : TF T) (h29 : T.fns.lookup 29 = some d_law_times) {k : Nat} (hk : 3 ≤ k) (hN : 4001 ≤ N) {p q : Int × Int} (hp : 0 < p.2) (hq : 0 < q.2) (sp : szF 900 p) (sq : szF 900 q) (st : Sto) : callN T N k 29 [fr p, fr q] st = .ok (fr (timesF p q)) false st := by
  rw [call_eq h29 (by omega) _ rfl]
  have n3 := part_nrm (N := N) t.h9 t.h10 (k := k - 1) (by omega) hN (x := p.1 * q.1) (pos_mul hp hq) (lt_mono (natAbs_mul_lt sp.2 sq.2) (by decide)) st
  have m1 : mulOk p.1 q.1 = true := mulOk_of (lt_mono sp.1 (by decide)) (lt_mono sq.1 (by decide))
  have m3 : mulOk p.2 q.2 = true := mulOk_of (lt_mono sp.2 (by decide)) (lt_mono sq.2 (by decide))
  unfold timesF
  simp only [fr] at n3 ⊢
  simp [d_law_times, startI, m1, m3, n3]
theorem lover_ok (t : TF T) (h30 : T.fns.lookup 30 = some d_law_over) {k : Nat} (hk : 3 ≤ k) (hN : 4001 ≤ N) {p q : Int × Int} (hp : 0 < p.2) (hq : q.1 ≠ 0) (sp : szF 900 p) (sq : szF 900 q) (st : Sto) : callN T N k 30 [fr p, fr q] st = .ok (fr (overF p q)) false st := by
  rw [call_eq h30 (by omega) _ rfl]
  have o1 : (1 : Int).natAbs < 2 ^ 2000 := by decide +kernel
  have o2 : (-1 : Int).natAbs < 2 ^ 2000 := by decide +kernel
  by_cases y : 0 < q.1
  · have n3 := part_nrm (N := N) t.h9 t.h10 (k := k - 1) (by omega) hN (x := p.1 * q.2) (pos_mul hp y) (lt_mono (natAbs_mul_lt sp.2 sq.1) (by decide)) st
    have m0 : mulOk 1 p.1 = true := mulOk_of o1 (lt_mono sp.1 (by decide))
    have m1 : mulOk p.1 q.2 = true := mulOk_of (lt_mono sp.1 (by decide)) (lt_mono sq.2 (by decide))
    have m2 : mulOk 1 p.2 = true := mulOk_of o1 (lt_mono sp.2 (by decide))
    have m3 : mulOk p.2 q.1 = true := mulOk_of (lt_mono sp.2 (by decide)) (lt_mono sq.1 (by decide))
    unfold overF
    rw [if_pos y]
    simp only [fr] at n3 ⊢
    simp [d_law_over, startI, y, m0, m1, m2, m3, n3]
  · have n3 := part_nrm (N := N) t.h9 t.h10 (k := k - 1) (by omega) hN (x := -p.1 * q.2) (y := -p.2 * q.1) (by rw [Int.neg_mul, ← Int.mul_neg]; exact pos_mul hp (by omega)) (by rw [Int.neg_mul, Int.natAbs_neg]; exact lt_mono (natAbs_mul_lt sp.2 sq.1) (by decide)) st
    have m0 : mulOk (-1) p.1 = true := mulOk_of o2 (lt_mono sp.1 (by decide))
    have m1 : mulOk (-p.1) q.2 = true := mulOk_of (by have := lt_mono sp.1 (show 900 ≤ 2000 by decide); omega) (lt_mono sq.2 (by decide))
    have m2 : mulOk (-1) p.2 = true := mulOk_of o2 (lt_mono sp.2 (by decide))
    have m3 : mulOk (-p.2) q.1 = true := mulOk_of (by have := lt_mono sp.2 (show 900 ≤ 2000 by decide); omega) (lt_mono sq.1 (by decide))
    unfold overF
    rw [if_neg y, show p.2 * -q.1 = -p.2 * q.1 by rw [Int.mul_neg, Int.neg_mul]]
    simp only [fr] at n3 ⊢
    simp [d_law_over, startI, y, m0, m1, m2, m3, n3, Int.neg_mul, Int.one_mul] at n3 m1 m3 ⊢
    simp [m1, m3, n3]
end
end IP

set_option Elab.async false
set_option linter.all false
set_option maxRecDepth 100000
namespace IP
open PySem
/-! ### between -/
def btw (lo hi : Int) : D → Bool
  | .int i => decide (lo ≤ i) && decide (i ≤ hi)
  | _ => false
theorem set_same {α : Type} {l : List α} {j : Nat} {x : α} (h : l[j]? = some x) : l.set j x = l := by
  obtain ⟨hl, rfl⟩ := List.getElem?_eq_some_iff.mp h
  exact List.set_getElem_self hl
section
variable {T : Tab} {N : Nat}
theorem is_between_ok (h0 : T.fns.lookup 0 = some d_is_integer) (h34 : T.fns.lookup 34 = some d_is_between) {k : Nat} (hk : 2 ≤ k) (d : D) (hd : okD d = true) (lo hi : Int) (st : Sto) : callN T N k 34 [d, .int lo, .int hi] st = .ok (.bl (btw lo hi d)) false st := by
  have i1 := is_integer_ok (N := N) h0 (k := k - 1) (by omega) d hd st
  rw [call_eq h34 (by omega) _ rfl]
  cases d with
  | int i => simp [d_is_between, startI, i1, isIntD, btw]
  | _ => simp [d_is_between, startI, i1, isIntD, btw]
/-! ### pop(place) -/
def kPop (i : Nat) : R → EnvI → Sto → Res R := fun r env st => match env[i]?, r.1 with
      | some (.own ds), .int j => match (gd (lineOk ds.length) ()).bind fun _ => L2.ixN ds.length j with
        | some n => match ds[n]? with | some d => .ok (pv d) (env.set i (.own (ds.eraseIdx n))) st | none => .stuck
        | none => .stuck
      | _, _ => .stuck
theorem e_popAt {C : CallF} {env : EnvI} {st : Sto} {i : Nat} {k : E} {ds : List D} (h : env[i]? = some (.own ds)) : evalE C (.popAt i k) env st = Res.bind (evalE C k env st) (kPop i) := by
  show (match env[i]? with
    | some (.own _) => M.bind (evalE C k) (fun r env st => match env[i]?, r.1 with
      | some (.own ds), .int j => match (gd (lineOk ds.length) ()).bind fun _ => L2.ixN ds.length j with
        | some n => match ds[n]? with | some d => .ok (pv d) (env.set i (.own (ds.eraseIdx n))) st | none => .stuck
        | none => .stuck
      | _, _ => .stuck) env st
    | _ => .stuck) = _
  rw [h]
  exact bind_to fun _ _ _ => rfl
theorem kPop_at {env : EnvI} {st : Sto} {i : Nat} {ds : List D} (h : env[i]? = some (.own ds)) (hl : ds.length ≤ 16777216) {j : Int} (h0 : 0 ≤ j) (h1 : j.toNat < ds.length) : kPop i (.int j, false) env st = .ok (pv ds[j.toNat]) (env.set i (.own (ds.eraseIdx j.toNat))) st := by
  unfold kPop
  have h2 : L2.ixN ds.length j = some j.toNat := by
    unfold L2.ixN
    rw [if_pos h0, if_pos (by omega)]
  rw [h]
  simp [pv, hl, h2, List.getElem?_eq_getElem h1]
theorem erase_perm {α : Type} : ∀ (l : List α) (n : Nat) (h : n < l.length), (l[n] :: l.eraseIdx n).Perm l
  | x :: xs, 0, _ => .refl _
  | x :: xs, n + 1, h => by
    have := erase_perm xs n (by simpa using h)
    exact (List.Perm.swap x _ _).trans (this.cons x)
theorem mixed_loop (h6 : T.fns.lookup 6 = some d_law_draw) {k : Nat} (hk : 1 ≤ k) {sub : Nat → Nat → Option Bool} {M j : Nat} {x1 : Slot} : ∀ (n m : Nat) (left found : List D) (b : Nat) (h : List D) (st : Sto), left.length = n → n + 1 ≤ m → found.length + n ≤ 1000000 → b + n ≤ 10 ^ 15 → Hand b h → st[j]? = some (.lst h) →
    ∃ (ys : List D) (h' : List D), whl (callN T N k) sub M (.prim (.gt) [.prim (.len) [.bor 2], .con (.int 0)]) [.app 3 (.popAt 2 (.call 6 [.var 0, .prim (.len) [.bor 2]]))] m [.val (.ref j), x1, .own left, .own found] st = .ok .nx [.val (.ref j), x1, .own [], .own (found ++ ys)] (st.set j (.lst h')) ∧ ys.Perm left ∧ Hand (b + n) h' := by
  intro n
  induction n with
  | zero =>
    intro m left found b h st h1 h2 h3 h4 H hj
    obtain ⟨m, rfl⟩ : ∃ k, m = k + 1 := ⟨m - 1, by omega⟩
    have : left = [] := List.eq_nil_of_length_eq_zero h1
    subst this
    refine ⟨[], h, ?_, .refl _, H⟩
    rw [whl_succ, set_same hj]
    simp
  | succ n ih =>
    intro m left found b h st h1 h2 h3 h4 H hj
    obtain ⟨m, rfl⟩ : ∃ k, m = k + 1 := ⟨m - 1, by omega⟩
    have hjl : j < st.length := (List.getElem?_eq_some_iff.mp hj).1
    have hset : ∀ v : Bx, (st.set j v)[j]? = some v := fun v => List.getElem?_set_self hjl
    obtain ⟨v, h1', e1, v1, v2, H1⟩ := draw_ok (N := N) h6 hk hj H (by omega) (m := left.length) (by omega) (divOk_small (by omega) (by omega))
    have hv : v.toNat < left.length := by omega
    have hlen : (left.eraseIdx v.toNat).length = n := by rw [List.length_eraseIdx_of_lt hv]; omega
    obtain ⟨ys, h', e2, p2, H2⟩ := ih m (left.eraseIdx v.toNat) (found ++ [left[v.toNat]]) (b + 1) h1' (st.set j (.lst h1')) hlen (by omega) (by rw [List.length_append, List.length_singleton]; omega) (by omega) H1 (hset _)
    refine ⟨left[v.toNat] :: ys, h', ?_, (p2.cons _).trans (erase_perm left _ hv), by rw [show b + (n + 1) = b + 1 + n by omega]; exact H2⟩
    rw [whl_succ]
    have hgt : (0 : Int) < left.length := by omega
    have hne : ¬ left = [] := fun z => by rw [z] at h1; cases h1
    have hp := kPop_at (env := [.val (.ref j), x1, .own left, .own found]) (st := st.set j (.lst h1')) (i := 2) (ds := left) rfl (by omega) v1 hv
    have hb : evalSs (callN T N k) sub M [.app 3 (.popAt 2 (.call 6 [.var 0, .prim (.len) [.bor 2]]))] [.val (.ref j), x1, .own left, .own found] st = .ok .nx [.val (.ref j), x1, .own (left.eraseIdx v.toNat), .own (found ++ [left[v.toNat]])] (st.set j (.lst h1')) := by
      have hf : found.length < 16777216 := by omega
      simp [e_popAt (ds := left), e1, hp, hf]
    rw [List.set_set] at e2
    simp [hgt, hne, hb, e2, List.append_assoc]
theorem mixed_ok (h6 : T.fns.lookup 6 = some d_law_draw) (h85 : T.fns.lookup 85 = some d_law_mixed) {k : Nat} (hk : 2 ≤ k) {st : Sto} {j b : Nat} {h : List D} (hj : st[j]? = some (.lst h)) (H : Hand b h) (xs : List D) (hN : xs.length + 1 ≤ N) (hx : xs.length ≤ 1000000) (hb : b + xs.length ≤ 10 ^ 15) :
    ∃ (ys : List D) (h' : List D), callN T N k 85 [.ref j, .lst xs] st = .ok (.lst ys) true (st.set j (.lst h')) ∧ ys.Perm xs ∧ Hand (b + xs.length) h' := by
  obtain ⟨ys, h', e1, p1, H1⟩ := mixed_loop (N := N) h6 (k := k - 1) (by omega) (sub := T.sub) (M := N) (x1 := .val (.lst xs)) xs.length N xs [] b h st rfl hN (by simpa using hx) hb H hj
  refine ⟨ys, h', ?_, p1, H1⟩
  rw [call_eq h85 (by omega) _ rfl]
  simp only [List.nil_append] at e1
  simp [d_law_mixed, startI, e1]
end
end IP

set_option Elab.async false
set_option linter.all false
set_option maxRecDepth 100000
namespace IP
open PySem
section
variable {T : Tab} {N : Nat}
theorem get_set {st : Sto} {j : Nat} {x : Bx} (hj : st[j]? = some x) (v : Bx) : (st.set j v)[j]? = some v := List.getElem?_set_self (List.getElem?_eq_some_iff.mp hj).1
/-- a comprehension that draws -/
theorem lc_hand {C : CallF} {own : List Nat} {t : Tg} {y : E} {e : EnvI} {st : Sto} {j b c : Nat} {h : List D} (hj : st[j]? = some (.lst h)) (H : Hand b h) (hn : noOwn e own = true) (R : D → Prop) (xs : List D) (hx : xs.length ≤ 16777216)
    (step : ∀ (i : Nat) (x : D) (h : List D) (s : Sto), xs[i]? = some x → s[j]? = some (.lst h) → (∀ v, s.set j v = st.set j v) → Hand (b + c * i) h → ∃ v e' h', lcB C t [] y x (wipeI e own) s = .ok (some v) e' (s.set j (.lst h')) ∧ wipeI e' own = wipeI e own ∧ Hand (b + c * (i + 1)) h' ∧ R v) :
    ∃ (ys : List D) (h' : List D), inBlk own (lcGo (lcS C own t [] y) xs []) e st = .ok ys e (st.set j (.lst h')) ∧ ys.length = xs.length ∧ Hand (b + c * xs.length) h' ∧ ∀ y ∈ ys, R y := by
  obtain ⟨ys, s', h1, ⟨h', h2, h3⟩, h4, h5⟩ := lc_draw (C := C) (own := own) (t := t) (y := y) (e := e) (fun n s => ∃ h', s = st.set j (.lst h') ∧ Hand (b + c * n) h') (fun _ v => R v) hn xs hx (fun i x s q1 ⟨h', q2, q3⟩ => by
    subst q2
    obtain ⟨v, e', h'', r1, r2, r3, r4⟩ := step i x h' (st.set j (.lst h')) q1 (get_set hj _) (fun v => List.set_set ..) q3
    rw [List.set_set] at r1
    exact ⟨v, e', _, r1, r2, ⟨h'', rfl, r3⟩, r4⟩) (s := st) ⟨h, (set_same hj).symm, H⟩
  subst h2
  refine ⟨ys, h', h1, h4, h3, fun v hv => ?_⟩
  obtain ⟨n, hn⟩ := List.getElem?_of_mem hv
  have hlt : n < xs.length := by rw [← h4]; exact (List.getElem?_eq_some_iff.mp hn).1
  exact h5 n _ v (List.getElem?_eq_getElem hlt) hn
theorem ch_part {a b : Nat} (hb : 0 < b) (hab : a ≤ b) (hb2 : b ≤ 1000) : isChD (.tup [.int (a / Nat.gcd a b : Nat), .int (b / Nat.gcd a b : Nat)]) = true := by
  have hg : 0 < Nat.gcd a b := Nat.gcd_pos_of_pos_right _ hb
  have hg2 : Nat.gcd a b ≤ b := Nat.gcd_le_right _ hb
  have h1 : 0 < b / Nat.gcd a b := Nat.div_pos hg2 hg
  have h2 : Nat.gcd (a / Nat.gcd a b) (b / Nat.gcd a b) = 1 := Nat.coprime_div_gcd_div_gcd hg
  have h3 : a / Nat.gcd a b ≤ b / Nat.gcd a b := Nat.div_le_div_right hab
  have h4 : b / Nat.gcd a b ≤ b := Nat.div_le_self _ _
  generalize a / Nat.gcd a b = x at *
  generalize b / Nat.gcd a b = y at *
  show (decide (0 < (y : Int)) && (Nat.gcd (x : Int).natAbs (y : Int).natAbs == 1) && (decide (0 ≤ (x : Int)) && (decide ((x : Int) ≤ y) && decide ((y : Int) ≤ 1000)))) = true
  rw [Int.natAbs_natCast, Int.natAbs_natCast, h2]
  simp only [Bool.and_eq_true, decide_eq_true_eq, beq_self_eq_true]
  exact ⟨⟨by omega, trivial⟩, by omega, by omega, by omega⟩
/-- the defs that draw -/
structure TD (T : Tab) : Prop where
  h6 : T.fns.lookup 6 = some d_law_draw
  h7 : T.fns.lookup 7 = some d_law_some
  h9 : T.fns.lookup 9 = some d_law_common
  h10 : T.fns.lookup 10 = some d_law_part
  h11 : T.fns.lookup 11 = some d_law_share
theorem share_ok (t : TD T) {k : Nat} (hk : 3 ≤ k) (hN : 4001 ≤ N) {st : Sto} {j b : Nat} {h : List D} (hj : st[j]? = some (.lst h)) (H : Hand b h) (hb : b ≤ 10 ^ 12) :
    ∃ (d : D) (h' : List D), callN T N k 11 [.ref j] st = .ok d false (st.set j (.lst h')) ∧ isChD d = true ∧ Hand (b + 3) h' := by
  have hset := get_set hj
  obtain ⟨v, h1, e1, v1, v2, H1⟩ := draw_ok (N := N) t.h6 (k := k - 1) (by omega) hj H (by omega) (m := 8) (by decide) (by decide)
  rw [call_eq t.h11 (by omega) _ rfl]
  by_cases c1 : v < 2
  · have a1 : ∃ d, atD [.tup [.int 0, .int 1], .tup [.int 1, .int 1]] v = some d ∧ isChD d = true := by
      rcases (show v = 0 ∨ v = 1 by omega) with rfl | rfl
      · exact ⟨_, rfl, by decide +kernel⟩
      · exact ⟨_, rfl, by decide +kernel⟩
    obtain ⟨d, a1, a2⟩ := a1
    refine ⟨d, h1, ?_, a2, H1.mono (by omega)⟩
    simp [d_law_share, startI, e1, c1, a1]
  · by_cases c2 : v < 6
    · obtain ⟨d, h2, e2, m2, H2⟩ := some_ok (N := N) t.h6 t.h7 (k := k - 1) (by omega) (hset (.lst h1)) H1 (by omega) [.tup [.int 1, .int 2], .tup [.int 1, .int 2], .tup [.int 1, .int 3], .tup [.int 2, .int 3], .tup [.int 1, .int 4], .tup [.int 3, .int 4], .tup [.int 2, .int 5], .tup [.int 5, .int 6]] (by decide) (by decide)
      refine ⟨d, h2, ?_, ?_, H2.mono (by omega)⟩
      · simp [d_law_share, startI, e1, c1, c2, e2]
      · have : ([.tup [.int 1, .int 2], .tup [.int 1, .int 2], .tup [.int 1, .int 3], .tup [.int 2, .int 3], .tup [.int 1, .int 4], .tup [.int 3, .int 4], .tup [.int 2, .int 5], .tup [.int 5, .int 6]] : List D).all isChD = true := by decide +kernel
        exact List.all_eq_true.mp this d m2
    · obtain ⟨w, h2, e2, w1, w2, H2⟩ := draw_ok (N := N) t.h6 (k := k - 1) (by omega) (hset (.lst h1)) H1 (by omega) (m := 999) (by decide) (by decide)
      rw [List.set_set] at e2
      obtain ⟨u, h3, e3, u1, u2, H3⟩ := draw_ok (N := N) t.h6 (k := k - 1) (by omega) (hset (.lst h2)) H2 (by omega) (m := 2 + w + 1) (by omega) (divOk_small (by omega) (by omega))
      rw [List.set_set] at e3
      have e4 := part_ok (N := N) t.h9 t.h10 (k := k - 1) (by omega) (a := u.toNat) (b := (2 + w).toNat) (j := 10) (by omega) (by omega) (by omega) (by omega) (st.set j (.lst h3))
      rw [show ((u.toNat : Nat) : Int) = u by omega, show (((2 + w).toNat : Nat) : Int) = 2 + w by omega] at e4
      refine ⟨_, h3, ?_, ch_part (a := u.toNat) (b := (2 + w).toNat) (by omega) (by omega) (by omega), H3⟩
      simp [d_law_share, startI, e1, c1, c2, e2, e3, e4]
/-! ### bottoms small enough for Euclid's turns -/
def okS : D → Bool
  | .tup xs => okT (.tup xs) && (match xs with
    | [.int _, .int b] => decide (b < 1024 ∧ -1024 < b)
    | _ => true)
  | d => okT d
theorem ch_ok {d : D} (h : isChD d = true) : okS d = true := by
  unfold isChD at h
  split at h
  · rename_i a b
    simp only [Bool.and_eq_true, decide_eq_true_eq] at h
    show (true && decide (b < 1024 ∧ -1024 < b)) = true
    rw [Bool.true_and]
    exact decide_eq_true (by omega)
  · cases h
theorem okS_okD {d : D} (h : okS d = true) : okD d = true := by cases d <;> first | rfl | exact h
/-- the defs that judge -/
structure TJ (T : Tab) : Prop where
  h0 : T.fns.lookup 0 = some d_is_integer
  h1 : T.fns.lookup 1 = some d_common
  h2 : T.fns.lookup 2 = some d_is_fraction
  h3 : T.fns.lookup 3 = some d_is_chance
  h34 : T.fns.lookup 34 = some d_is_between
theorem chance_okS (t : TJ T) {k : Nat} (hk : 3 ≤ k) (hN : 21 ≤ N) (d : D) (hd : okS d = true) (st : Sto) : callN T N k 3 [d] st = .ok (.bl (isChD d)) false st := by
  refine is_chance_ok t.h0 t.h1 t.h2 t.h3 hk (j := 10) (by omega) d ?_ ?_ st
  · cases d <;> first | exact hd | skip
    unfold okS at hd
    rw [Bool.and_eq_true] at hd
    exact hd.1
  · rintro a b rfl
    unfold okS at hd
    rw [Bool.and_eq_true] at hd
    have := (of_decide_eq_true hd.2).1
    omega
/-! ### a node -/
def isTupD : D → Bool
  | .tup _ => true
  | _ => false
theorem isi_tup {d : D} (h : okD d = true) : isiD d .tuple = some (isTupD d) := by cases d <;> first | rfl | cases h
/-- each is below the next -/
def ascR (is : List Int) : Bool := (List.range (is.length - 1)).all fun i => decide (is[i]?.getD 0 < is[i + 1]?.getD 0)
def intD : D → Int
  | .int i => i
  | _ => 0
def isNodeD (at_ : Int) : D → Bool
  | .tup [.tup ps, .tup rs] => decide (ps.length ≤ 6) && (ps.all (btw 0 (at_ - 1)) && (ascR (ps.map intD) && (decide (rs.length = 2 ^ ps.length) && rs.all isChD)))
  | _ => false
def okNode : D → Bool
  | .tup xs => decide (xs.length ≤ 1000) && (xs.all okD && (match xs with
    | [.tup ps, .tup rs] => decide (ps.length ≤ 1000) && (ps.all okD && (decide (rs.length ≤ 100000) && rs.all okS))
    | _ => true))
  | d => okD d
theorem okNode_okD {d : D} (h : okNode d = true) : okD d = true := by cases d <;> first | rfl | exact h
theorem btw_int {lo hi : Int} {ps : List D} (h : ps.all (btw lo hi) = true) : ps = (ps.map intD).map D.int := by
  induction ps with
  | nil => rfl
  | cons p ps ih =>
    rw [List.all_cons, Bool.and_eq_true] at h
    rw [List.map_cons, List.map_cons, ← ih h.2]
    cases p <;> first | rfl | (have := h.1; cases this)
theorem asc_eq (xs : List Int) (m : Nat) (hm : m = xs.length - 1) : (((List.range m).map fun n : Nat => D.int (1 + (n : Int))).map fun d => decide (xs[(intD d - 1).toNat]?.getD 0 < xs[(intD d).toNat]?.getD 0)).all id = ascR xs := by
  subst hm
  unfold ascR
  rw [List.map_map, List.all_map]
  congr 1
  funext n
  have z1 : (intD (.int (1 + (n : Int))) - 1).toNat = n := by show (1 + (n : Int) - 1).toNat = n; omega
  have z2 : (intD (.int (1 + (n : Int)))).toNat = n + 1 := by show (1 + (n : Int)).toNat = n + 1; omega
  simp only [Function.comp, id, z1, z2]
theorem is_node_ok (t : TJ T) (h190 : T.fns.lookup 190 = some d_is_node) {k : Nat} (hk : 4 ≤ k) (hN : 21 ≤ N) (at_ : Int) (d : D) (hd : okNode d = true) (st : Sto) :
    callN T N k 190 [.int at_, d] st = .ok (.bl (isNodeD at_ d)) false st := by
  rw [call_eq h190 (by omega) _ rfl]
  by_cases ht : ∃ xs, d = .tup xs
  · obtain ⟨xs, rfl⟩ := ht
    have hd' := hd
    unfold okNode at hd
    rw [Bool.and_eq_true, Bool.and_eq_true] at hd
    obtain ⟨q1, q2, q3⟩ := hd
    have q1 := of_decide_eq_true q1
    have key := lc_map (C := callN T N (k - 1)) (own := [2]) (t := .name 2) (y := .prim (.isi (.tuple)) [.bor 2]) (e := [.val (.int at_), .val (.tup xs), .none, .none, .none, .none, .none, .none]) (s := st) (fun d => .bl (isTupD d)) rfl xs (by omega) (fun x hx => by
      refine ⟨[.val (.int at_), .val (.tup xs), .val x, .none, .none, .none, .none, .none], ?_, rfl⟩
      have := isi_tup (List.all_eq_true.mp q2 x hx)
      simp [wipeI, this])
    by_cases h2 : ∃ ps rs, xs = [.tup ps, .tup rs]
    · obtain ⟨ps, rs, rfl⟩ := h2
      simp only [Bool.and_eq_true, decide_eq_true_eq] at q3
      obtain ⟨p1, p2, p3, p4⟩ := q3
      have kb := lc_map (C := callN T N (k - 1)) (own := [5]) (t := .name 5) (y := .call 34 [.var 5, .con (.int 0), .prim (.sub) [.bor 0, .con (.int 1)]]) (e := [.val (.int at_), .val (.tup [.tup ps, .tup rs]), .none, .val (.tup ps), .val (.tup rs), .none, .none, .none]) (s := st) (fun d => .bl (btw 0 (at_ - 1) d)) rfl ps (by omega) (fun x hx => by
        refine ⟨[.val (.int at_), .val (.tup [.tup ps, .tup rs]), .none, .val (.tup ps), .val (.tup rs), .val x, .none, .none], ?_, rfl⟩
        have := is_between_ok (N := N) t.h0 t.h34 (k := k - 1) (by omega) x (List.all_eq_true.mp p2 x hx) 0 (at_ - 1) st
        simp [wipeI, this])
      have kc := lc_map (C := callN T N (k - 1)) (own := [7]) (t := .name 7) (y := .call 3 [.var 7]) (e := [.val (.int at_), .val (.tup [.tup ps, .tup rs]), .none, .val (.tup ps), .val (.tup rs), .none, .none, .none]) (s := st) (fun d => .bl (isChD d)) rfl rs (by omega) (fun x hx => by
        refine ⟨[.val (.int at_), .val (.tup [.tup ps, .tup rs]), .none, .val (.tup ps), .val (.tup rs), .none, .none, .val x], ?_, rfl⟩
        have := chance_okS (N := N) t (k := k - 1) (by omega) hN x (List.all_eq_true.mp p4 x hx) st
        simp [wipeI, this])
      by_cases l6 : ps.length ≤ 6
      · have l6i : ¬ (6 : Int) < ps.length := by omega
        by_cases hb : ps.all (btw 0 (at_ - 1)) = true
        · have hps := btw_int hb
          have ka := lc_map (C := callN T N (k - 1)) (own := [6]) (t := .name 6) (y := .prim (.lt) [.prim (.idx) [.bor 3, .prim (.sub) [.bor 6, .con (.int 1)]], .prim (.idx) [.bor 3, .bor 6]]) (e := [.val (.int at_), .val (.tup [.tup ps, .tup rs]), .none, .val (.tup ps), .val (.tup rs), .none, .none, .none]) (s := st) (fun d => .bl (decide ((ps.map intD)[(intD d - 1).toNat]?.getD 0 < (ps.map intD)[(intD d).toNat]?.getD 0))) rfl ((List.range ((ps.length : Int) - 1).toNat).map fun n : Nat => D.int (1 + (n : Int))) (by rw [List.length_map, List.length_range]; omega) (fun x hx => by
            obtain ⟨n, hn, rfl⟩ := List.mem_map.mp hx
            rw [List.mem_range] at hn
            refine ⟨[.val (.int at_), .val (.tup [.tup ps, .tup rs]), .none, .val (.tup ps), .val (.tup rs), .none, .val (.int (1 + (n : Int))), .none], ?_, rfl⟩
            have a1 : atD ps (1 + (n : Int) - 1) = some (.int ((ps.map intD)[n]?.getD 0)) := by
              rw [show (1 + (n : Int) - 1) = ((n : Nat) : Int) by omega, atD_nat]
              conv => lhs; rw [hps]
              rw [List.getElem?_map, List.getElem?_eq_getElem (by rw [List.length_map]; omega)]
              rfl
            have a2 : atD ps (1 + (n : Int)) = some (.int ((ps.map intD)[n + 1]?.getD 0)) := by
              rw [show (1 + (n : Int)) = ((n + 1 : Nat) : Int) by omega, atD_nat]
              conv => lhs; rw [hps]
              rw [List.getElem?_map, List.getElem?_eq_getElem (by rw [List.length_map]; omega)]
              rfl
            have z1 : (intD (.int (1 + (n : Int))) - 1).toNat = n := by show (1 + (n : Int) - 1).toNat = n; omega
            have z2 : (intD (.int (1 + (n : Int)))).toNat = n + 1 := by show (1 + (n : Int)).toNat = n + 1; omega
            rw [z1, z2]
            simp [wipeI, a1, a2])
          have hr := it_r2 1 (ps.length : Int) (by omega) (by omega) (by omega) (by omega)
          have hl : ((ps.length : Int) - 1).toNat = ps.length - 1 := by omega
          have hasc : (((List.range ((ps.length : Int) - 1).toNat).map fun n : Nat => D.int (1 + (n : Int))).map fun d => decide ((ps.map intD)[(intD d - 1).toNat]?.getD 0 < (ps.map intD)[(intD d).toNat]?.getD 0)).all id = ascR (ps.map intD) := asc_eq _ _ (by rw [hl, List.length_map])
          have pw : powOk 1 ps.length = true := by
            unfold powOk
            rw [decide_eq_true (by omega), decide_eq_true (by omega)]; rfl
          have hp2 : ((rs.length : Int) = 2 ^ ps.length) = (rs.length = 2 ^ ps.length) := by
            have z : ((2 ^ ps.length : Nat) : Int) = 2 ^ ps.length := Int.natCast_pow 2 _
            rw [← z]
            exact propext Int.ofNat_inj
          have hbl := blsD_map (fun d => decide ((ps.map intD)[(intD d - 1).toNat]?.getD 0 < (ps.map intD)[(intD d).toNat]?.getD 0)) ((List.range ((ps.length : Int) - 1).toNat).map fun n : Nat => D.int (1 + (n : Int)))
          generalize (((List.range ((ps.length : Int) - 1).toNat).map fun n : Nat => D.int (1 + (n : Int))).map fun d => decide ((ps.map intD)[(intD d - 1).toNat]?.getD 0 < (ps.map intD)[(intD d).toNat]?.getD 0)) = L at hasc hbl
          generalize (((List.range ((ps.length : Int) - 1).toNat).map fun n : Nat => D.int (1 + (n : Int))).map fun d => D.bl (decide ((ps.map intD)[(intD d - 1).toNat]?.getD 0 < (ps.map intD)[(intD d).toNat]?.getD 0))) = Y at ka hbl
          generalize hX : ((List.range ((ps.length : Int) - 1).toNat).map fun n : Nat => D.int (1 + (n : Int))) = X at ka hr
          by_cases hA : ascR (ps.map intD) = true
          · rw [hA] at hasc
            by_cases hR : rs.length = 2 ^ ps.length
            · simp [d_is_node, startI, isiD, key, isTupD, blsD, kb, blsD_map, l6i, l6, isNodeD, hb, hr, ka, hbl, hA, hasc, pw, hp2, hR, kc]
            · simp [d_is_node, startI, isiD, key, isTupD, blsD, kb, blsD_map, l6i, l6, isNodeD, hb, hr, ka, hbl, hA, hasc, pw, hp2, hR]
          · have hA : ascR (ps.map intD) = false := Bool.eq_false_iff.mpr hA
            rw [hA] at hasc
            simp [d_is_node, startI, isiD, key, isTupD, blsD, kb, blsD_map, l6i, l6, isNodeD, hb, hr, ka, hbl, hA, hasc]
        · have hb' : ps.all (btw 0 (at_ - 1)) = false := Bool.eq_false_iff.mpr hb
          have hb2 : (ps.map (btw 0 (at_ - 1))).all id = false := by rw [List.all_map]; exact hb'
          simp [d_is_node, startI, isiD, key, isTupD, blsD, kb, blsD_map, l6i, hb2, isNodeD, hb']
      · have l6i : (6 : Int) < ps.length := by omega
        simp [d_is_node, startI, isiD, key, isTupD, blsD, l6i, isNodeD, l6]
    · have e3 : isNodeD at_ (.tup xs) = false := by
        unfold isNodeD
        split
        · rename_i z
          injection z with z
          exact absurd ⟨_, _, z⟩ h2
        · rfl
      by_cases l2 : (xs.length : Int) = 2
      · obtain ⟨x, y, rfl⟩ : ∃ x y, xs = [x, y] := by
          match xs, l2 with
          | [x, y], _ => exact ⟨x, y, rfl⟩
          | [], h => cases h
          | [_], h => exact absurd h (by simp)
          | _ :: _ :: _ :: _, h => simp at h; omega
        have hxy : (isTupD x && isTupD y) = false := by
          cases x <;> cases y <;> first | rfl | exact absurd ⟨_, _, rfl⟩ h2
        simp [d_is_node, startI, isiD, key, e3, blsD]
        rw [Bool.and_eq_false_iff] at hxy
        rcases hxy with hxy | hxy <;> simp [hxy]
      · simp [d_is_node, startI, isiD, e3, l2]
  · have e3 : isNodeD at_ d = false := by
      cases d <;> first | rfl | exact absurd ⟨_, rfl⟩ ht
    cases d <;> first | exact absurd ⟨_, rfl⟩ ht | (cases hd; done) | simp [d_is_node, startI, isiD, e3]
/-! ### a web -/
theorem all_lc {C : CallF} {own : List Nat} {t : Tg} {k : IK} {os : List E} {y : E} {e : EnvI} {s : Sto} {ds xs : List D} (f : D → Bool) (hos : evalOs C os e s = .ok ds e s) (hit : itemsD k ds = some xs) (hn : noOwn e own = true) (hx : xs.length ≤ 16777216)
    (step : ∀ x ∈ xs, ∃ e', lcB C t [] y x (wipeI e own) s = .ok (some (.bl (f x))) e' s ∧ wipeI e' own = wipeI e own) : evalE C (.prim .all [.lc own t k os [] y]) e s = .ok (pv (.bl (xs.all f))) e s := by
  have key := lc_map (fun d => .bl (f d)) hn xs hx step
  have hb := blsD_map f xs
  have ha : (xs.map f).all id = xs.all f := by rw [List.all_map]; rfl
  rw [← ha]
  generalize xs.map f = L at hb
  generalize xs.map (fun d => D.bl (f d)) = Y at key hb
  simp [hos, hit, key, hb]
def nodeF : D → Bool
  | .tup [.int i, x] => isNodeD i x
  | _ => false
def isWebD : D → Bool
  | .tup [.tup ns, .tup ls, .tup ss] => decide (ns.length ≤ 400) && ((enumD ns).all nodeF && (decide (1 ≤ ls.length) && (decide (ls.length ≤ 4) && (decide (ss.length ≤ 400) && (ls ++ ss).all (btw 0 (ns.length - 1))))))
  | _ => false
def okWeb : D → Bool
  | .tup xs => decide (xs.length ≤ 1000) && (xs.all okD && (match xs with
    | [.tup ns, .tup ls, .tup ss] => decide (ns.length ≤ 1000) && (ns.all okNode && (decide (ls.length ≤ 1000) && (decide (ss.length ≤ 1000) && (ls ++ ss).all okD)))
    | _ => true))
  | d => okD d
theorem is_web_ok (t : TJ T) (h190 : T.fns.lookup 190 = some d_is_node) (h191 : T.fns.lookup 191 = some d_is_web) {k : Nat} (hk : 5 ≤ k) (hN : 21 ≤ N) (d : D) (hd : okWeb d = true) (st : Sto) :
    callN T N k 191 [d] st = .ok (.bl (isWebD d)) false st := by
  rw [call_eq h191 (by omega) _ rfl]
  by_cases ht : ∃ xs, d = .tup xs
  · obtain ⟨xs, rfl⟩ := ht
    unfold okWeb at hd
    rw [Bool.and_eq_true, Bool.and_eq_true] at hd
    obtain ⟨q1, q2, q3⟩ := hd
    have q1 := of_decide_eq_true q1
    have key := all_lc (C := callN T N (k - 1)) (own := [1]) (t := .name 1) (k := .seq) (os := [.var 0]) (y := .prim (.isi (.tuple)) [.bor 1]) (e := [.val (.tup xs), .none, .none, .none, .none, .none, .none]) (s := st) isTupD (by simp; rfl) rfl rfl (by omega) (fun x hx => by
      refine ⟨[.val (.tup xs), .val x, .none, .none, .none, .none, .none], ?_, rfl⟩
      have := isi_tup (List.all_eq_true.mp q2 x hx)
      simp [wipeI, this])
    by_cases h3 : ∃ ns ls ss, xs = [.tup ns, .tup ls, .tup ss]
    · obtain ⟨ns, ls, ss, rfl⟩ := h3
      simp only [Bool.and_eq_true, decide_eq_true_eq] at q3
      obtain ⟨p1, p2, p3, p4, p5⟩ := q3
      have kn := all_lc (C := callN T N (k - 1)) (own := [5, 6]) (t := .tup [5, 6]) (k := .enm) (os := [.var 2]) (y := .call 190 [.var 5, .var 6]) (e := [.val (.tup [.tup ns, .tup ls, .tup ss]), .none, .val (.tup ns), .val (.tup ls), .val (.tup ss), .none, .none]) (s := st) nodeF (by simp; rfl) rfl rfl (by unfold enumD; rw [List.length_map, List.length_zipIdx]; omega) (fun x hx => by
        obtain ⟨⟨y, i⟩, hy, rfl⟩ := List.mem_map.mp hx
        refine ⟨[.val (.tup [.tup ns, .tup ls, .tup ss]), .none, .val (.tup ns), .val (.tup ls), .val (.tup ss), .val (.int i), .val y], ?_, rfl⟩
        have hm : y ∈ ns := (List.mem_zipIdx hy).2.2 ▸ List.getElem_mem _
        have := is_node_ok (N := N) t h190 (k := k - 1) (by omega) hN i y (List.all_eq_true.mp p2 y hm) st
        simp [wipeI, this, nodeF])
      have kb := all_lc (C := callN T N (k - 1)) (own := [5]) (t := .name 5) (k := .seq) (os := [.prim (.add) [.bor 3, .bor 4]]) (y := .call 34 [.var 5, .con (.int 0), .prim (.sub) [.prim (.len) [.bor 2], .con (.int 1)]]) (e := [.val (.tup [.tup ns, .tup ls, .tup ss]), .none, .val (.tup ns), .val (.tup ls), .val (.tup ss), .none, .none]) (s := st) (ds := [.tup (ls ++ ss)]) (xs := ls ++ ss) (btw 0 (ns.length - 1)) (by
          have : ls.length + ss.length ≤ 16777216 := by omega
          simp [this]) rfl rfl (by rw [List.length_append]; omega) (fun x hx => by
        refine ⟨[.val (.tup [.tup ns, .tup ls, .tup ss]), .none, .val (.tup ns), .val (.tup ls), .val (.tup ss), .val x, .none], ?_, rfl⟩
        have := is_between_ok (N := N) t.h0 t.h34 (k := k - 1) (by omega) x (List.all_eq_true.mp p5 x hx) 0 (ns.length - 1) st
        simp [wipeI, this])
      generalize hA : (enumD ns).all nodeF = A at kn
      generalize hB : (ls ++ ss).all (btw 0 (ns.length - 1)) = B at kb
      have hw : isWebD (.tup [.tup ns, .tup ls, .tup ss]) = (decide (ns.length ≤ 400) && (A && (decide (1 ≤ ls.length) && (decide (ls.length ≤ 4) && (decide (ss.length ≤ 400) && B))))) := by
        rw [← hA, ← hB]; rfl
      rw [hw]
      have ha : [D.tup ns, .tup ls, .tup ss].all isTupD = true := rfl
      rw [ha] at key
      by_cases c1 : ns.length ≤ 400
      · have c1i : ¬ (400 : Int) < ns.length := by omega
        cases A
        · simp [d_is_web, startI, isiD, ↓key, ↓kn, c1i, c1]
        · by_cases c2 : 1 ≤ ls.length
          · have c2i : (1 : Int) ≤ ls.length := by omega
            by_cases c3 : ls.length ≤ 4
            · have c3i : (ls.length : Int) ≤ 4 := by omega
              by_cases c4 : ss.length ≤ 400
              · have c4i : ¬ (400 : Int) < ss.length := by omega
                simp [d_is_web, startI, isiD, ↓key, ↓kn, ↓kb, c1i, c1, c2i, c2, c3i, c3, c4i, c4]
              · have c4i : (400 : Int) < ss.length := by omega
                simp [d_is_web, startI, isiD, ↓key, ↓kn, ↓kb, c1i, c1, c2i, c2, c3i, c3, c4i, c4]
            · have c3i : ¬ (ls.length : Int) ≤ 4 := by omega
              simp [d_is_web, startI, isiD, ↓key, ↓kn, ↓kb, c1i, c1, c2i, c2, c3i, c3]
          · have c2i : ¬ (1 : Int) ≤ ls.length := by omega
            simp [d_is_web, startI, isiD, ↓key, ↓kn, ↓kb, c1i, c1, c2i, c2]
      · have c1i : (400 : Int) < ns.length := by omega
        simp [d_is_web, startI, isiD, ↓key, c1i, c1]
    · have e3 : isWebD (.tup xs) = false := by
        unfold isWebD
        split
        · rename_i z
          injection z with z
          exact absurd ⟨_, _, _, z⟩ h3
        · rfl
      by_cases l3 : xs.length = 3
      · have ha : xs.all isTupD = false := by
          match xs, l3 with
          | [x, y, z], _ => cases x <;> cases y <;> cases z <;> first | rfl | exact absurd ⟨_, _, _, rfl⟩ h3
        rw [ha] at key
        have l3i : (xs.length : Int) = 3 := by omega
        simp [d_is_web, startI, isiD, ↓key, e3, l3i]
      · have l3i : ¬ (xs.length : Int) = 3 := by omega
        simp [d_is_web, startI, isiD, e3, l3i]
  · have e3 : isWebD d = false := by
      cases d <;> first | rfl | exact absurd ⟨_, rfl⟩ ht
    cases d <;> first | exact absurd ⟨_, rfl⟩ ht | (cases hd; done) | simp [d_is_web, startI, isiD, e3]
end
end IP

set_option Elab.async false
set_option linter.all false
set_option maxRecDepth 100000
namespace IP
open PySem
/-! ### parts of rows -/
theorem cut_take (xs : List D) {a : Int} (h0 : 0 ≤ a) : cutD xs none (some a) = xs.take a.toNat := by
  obtain ⟨n, rfl⟩ : ∃ n : Nat, a = n := ⟨a.toNat, by omega⟩
  unfold cutD
  rw [show HT.sIx xs.length 0 none = 0 from rfl, HT.sIx_nat, List.drop_zero, Int.toNat_natCast, Nat.sub_zero]
  by_cases h : n ≤ xs.length
  · rw [Nat.min_eq_left h]
  · rw [Nat.min_eq_right (by omega), List.take_of_length_le (Nat.le_refl _), List.take_of_length_le (by omega)]
theorem cut_drop (xs : List D) {a : Int} (h0 : 0 ≤ a) : cutD xs (some a) none = xs.drop a.toNat := by
  obtain ⟨n, rfl⟩ : ∃ n : Nat, a = n := ⟨a.toNat, by omega⟩
  unfold cutD
  rw [show HT.sIx xs.length xs.length none = xs.length from rfl, HT.sIx_nat, Int.toNat_natCast]
  by_cases h : n ≤ xs.length
  · rw [Nat.min_eq_left h, List.take_of_length_le (by rw [List.length_drop]; omega)]
  · rw [Nat.min_eq_right (by omega), List.drop_of_length_le (Nat.le_refl _), List.drop_of_length_le (by omega), List.take_nil]
theorem cut_sub {xs : List D} {lo hi : Option Int} {x : D} (h : x ∈ cutD xs lo hi) : x ∈ xs := List.mem_of_mem_drop (List.mem_of_mem_take h)
theorem cut_len (xs : List D) (lo hi : Option Int) : (cutD xs lo hi).length ≤ xs.length := by
  unfold cutD
  rw [List.length_take, List.length_drop]
  omega
theorem sIx_neg1 (n d : Nat) : HT.sIx n d (some (-1)) = n - 1 := by
  show (if (-1 : Int) < 0 then (-1 + (n : Int)).toNat else min (-1 : Int).toNat n) = n - 1
  rw [if_pos (by decide)]
  omega
/-- all but the last -/
theorem cut_init (xs : List D) (x : D) : cutD (xs ++ [x]) none (some (-1)) = xs := by
  unfold cutD
  rw [sIx_neg1, List.length_append, List.length_singleton]
  show (List.take (xs.length + 1 - 1 - 0) (List.drop 0 (xs ++ [x]))) = xs
  rw [List.drop_zero, Nat.add_sub_cancel, Nat.sub_zero, List.take_left]
/-- the last alone -/
theorem cut_last (xs : List D) (x : D) : cutD (xs ++ [x]) (some (-1)) none = [x] := by
  unfold cutD
  rw [sIx_neg1, List.length_append, List.length_singleton, Nat.add_sub_cancel, List.drop_left]
  show List.take (xs.length + 1 - xs.length) [x] = [x]
  rw [Nat.add_sub_cancel_left]; rfl
theorem at_last (xs : List D) (x : D) : atD (xs ++ [x]) (-1) = some x := by
  unfold atD L2.atI L2.ixN
  rw [if_neg (by decide), if_pos (by rw [List.length_append, List.length_singleton]; omega)]
  show (xs ++ [x])[(-1 + ((xs ++ [x]).length : Int)).toNat]? = _
  rw [List.length_append, List.length_singleton, show (-1 + ((xs.length + 1 : Nat) : Int)).toNat = xs.length by omega, List.getElem?_append_right (Nat.le_refl _), Nat.sub_self]
  rfl
theorem ints_map (is : List Int) : intsD (is.map D.int) = some is := by
  induction is with
  | nil => rfl
  | cons i is ih =>
    show intsD (.int i :: is.map D.int) = _
    unfold intsD
    simp [ih]
theorem sort_strict {l : List Int} (h : l.Nodup) : (sortI l).Pairwise (· < ·) := by
  have h1 := sortI_sorted l
  have h2 : (sortI l).Nodup := (sortI_perm l).nodup_iff.mpr h
  exact (h1.and h2).imp fun ⟨a, b⟩ => by omega
/-- ints in some order are ints -/
theorem perm_ints {ys : List D} {is : List Int} (h : ys.Perm (is.map D.int)) : ∃ js : List Int, ys = js.map D.int ∧ js.Perm is := by
  have e : ys = (ys.map intD).map D.int := by
    have : ∀ y ∈ ys, D.int (intD y) = y := fun y hy => by
      obtain ⟨i, _, rfl⟩ := List.mem_map.mp (h.mem_iff.mp hy)
      rfl
    rw [List.map_map]
    exact (List.map_congr_left (f := id) (fun y hy => (this y hy).symm) |>.symm.trans (List.map_id _)).symm
  refine ⟨ys.map intD, e, ?_⟩
  have := h.map intD
  rw [List.map_map, show intD ∘ D.int = id from rfl, List.map_id] at this
  exact this
/-! ### ascending rows -/
theorem asc_of {is : List Int} (h : is.Pairwise (· < ·)) : ascR is = true := by
  unfold ascR
  rw [List.all_eq_true]
  intro i hi
  rw [List.mem_range] at hi
  rw [decide_eq_true_eq, List.getElem?_eq_getElem (by omega), List.getElem?_eq_getElem (by omega)]
  exact List.pairwise_iff_getElem.mp h i (i + 1) (by omega) (by omega) (by omega)
theorem asc_not (is : List Int) (a : Int) : ascR (is ++ [a, a]) = false := by
  unfold ascR
  rw [List.all_eq_false]
  refine ⟨is.length, List.mem_range.mpr (by rw [List.length_append]; show is.length < is.length + 2 - 1; omega), ?_⟩
  rw [List.getElem?_append_right (Nat.le_refl _), List.getElem?_append_right (by omega), Nat.sub_self, Nat.add_sub_cancel_left]
  show ¬ decide (a < a) = true
  simp
/-! ### drawn webs -/
structure NodeG (i : Nat) (d : D) : Prop where
  ex : ∃ (ps : List Int) (rs : List D), d = .tup [.tup (ps.map D.int), .tup rs] ∧ ps.length ≤ 3 ∧ (∀ p ∈ ps, 0 ≤ p ∧ p < i) ∧ ps.Pairwise (· < ·) ∧ rs.length = 2 ^ ps.length ∧ ∀ r ∈ rs, isChD r = true
structure WebG (ns ls ss : List D) : Prop where
  n1 : 1 ≤ ns.length
  n2 : ns.length ≤ 7
  fn : ∀ (i : Nat) (d : D), ns[i]? = some d → NodeG i d
  l1 : 1 ≤ ls.length
  l2 : ls.length ≤ 4
  s2 : ss.length ≤ 2
  fl : ∀ x ∈ ls, btw 0 (ns.length - 1) x = true
  fs : ∀ x ∈ ss, btw 0 (ns.length - 1) x = true
theorem pow2_le {n m : Nat} (h : n ≤ m) : 2 ^ n ≤ 2 ^ m := Nat.pow_le_pow_right (by decide) h
section
variable {T : Tab} {N : Nat}
theorem draw_web_ok (t : TD T) (h85 : T.fns.lookup 85 = some d_law_mixed) (h213 : T.fns.lookup 213 = some d_law_draw_web) {k : Nat} (hk : 4 ≤ k) (hN : 4001 ≤ N) {st : Sto} {j b : Nat} {h : List D} (hj : st[j]? = some (.lst h)) (H : Hand b h) (hb : b ≤ 10 ^ 11) :
    ∃ (ns ls ss : List D) (h' : List D), callN T N k 213 [.ref j] st = .ok (.tup [.tup ns, .tup ls, .tup ss]) false (st.set j (.lst h')) ∧ WebG ns ls ss ∧ Hand (b + 400) h' := by
  rw [call_eq h213 (by omega) _ rfl]
  obtain ⟨v, h1, e1, v1, v2, H1⟩ := draw_ok (N := N) t.h6 (k := k - 1) (by omega) hj H (by omega) (m := 7) (by decide) (by decide)
  have r1 := it_ri (1 + v) (by omega) (by omega)
  obtain ⟨e', s', e2, ns, x3, x4, h2, rfl, rfl, l2, g2, H2⟩ := for_all (step := stp (callN T N (k - 1)) T.sub N (.name 3) [.asg (.name 4) (.prim (.tuple) [.prim (.sorted) [.prim (.slc false true) [.call 85 [.var 0, .prim (.listR) [.bor 3]], .call 6 [.var 0, .con (.int 4)]]]]), .app 2 (.tup [.var 4, .prim (.tuple) [.lc [5] (.name 5) (.rng1) [.prim (.shl) [.con (.int 1), .prim (.len) [.bor 4]]] [] (.call 11 [.var 0])]])])
    (fun i e s => ∃ (ns : List D) (x3 x4 : Slot) (h2 : List D), e = [.val (.ref j), .val (.int (1 + v)), .own ns, x3, x4, .none, .none, .none, .none, .none] ∧ s = st.set j (.lst h2) ∧ ns.length = i ∧ (∀ (i : Nat) (d : D), ns[i]? = some d → NodeG i d) ∧ Hand (b + 1 + 40 * i) h2)
    ((List.range (1 + v).toNat).map fun n : Nat => D.int (n : Int)) (fun i x e s hx ⟨ns, x3, x4, h2, q1, q2, q3, q4, q5⟩ => by
      subst q1 q2
      have hi : i < (1 + v).toNat := by
        have := (List.getElem?_eq_some_iff.mp hx).1
        rwa [List.length_map, List.length_range] at this
      have hxe : x = .int i := by
        rw [List.getElem?_map, List.getElem?_range hi] at hx
        cases hx; rfl
      subst hxe
      have hj2 := get_set hj (.lst h2)
      obtain ⟨ys, h3, e3, p3, H3⟩ := mixed_ok (N := N) t.h6 h85 (k := k - 1) (by omega) hj2 q5 (rangeD i) (by unfold rangeD; rw [List.length_map, List.length_range]; omega) (by unfold rangeD; rw [List.length_map, List.length_range]; omega) (by unfold rangeD; rw [List.length_map, List.length_range]; omega)
      rw [List.set_set] at e3
      have hrl : (rangeD i).length = i := by unfold rangeD; rw [List.length_map, List.length_range]; omega
      rw [hrl] at H3
      obtain ⟨w, h4, e4, w1, w2, H4⟩ := draw_ok (N := N) t.h6 (k := k - 1) (by omega) (get_set hj (.lst h3)) H3 (by omega) (m := 4) (by decide) (by decide)
      rw [List.set_set] at e4
      have hre : rangeD i = ((List.range i).map fun n : Nat => (n : Int)).map D.int := by
        unfold rangeD
        rw [List.map_map, Int.toNat_natCast]; rfl
      rw [hre] at p3
      obtain ⟨js, rfl, pj⟩ := perm_ints p3
      have hjl : js.length = i := by rw [pj.length_eq, List.length_map, List.length_range]
      have hc : cutD (js.map D.int) none (some w) = (js.map D.int).take w.toNat := cut_take _ w1
      have hnd : js.Nodup := by
        rw [pj.nodup_iff]
        exact List.pairwise_map.mpr ((List.nodup_range (n := i)).imp fun h z => h (Int.ofNat_inj.mp z))
      have hs := sort_strict (l := js.take w.toNat) (hnd.sublist (List.take_sublist _ _))
      have hsl : (sortI (js.take w.toNat)).length ≤ 3 := by
        rw [(sortI_perm _).length_eq, List.length_take]; omega
      have hsm : ∀ p ∈ sortI (js.take w.toNat), 0 ≤ p ∧ p < i := fun p hp => by
        have h1 := List.mem_of_mem_take ((sortI_perm _).mem_iff.mp hp)
        obtain ⟨n, hn, rfl⟩ := List.mem_map.mp (pj.mem_iff.mp h1)
        rw [List.mem_range] at hn
        omega
      have hil := ints_map (js.take w.toNat)
      rw [List.map_take] at hil
      have hlt : (js.take w.toNat).length < 16777216 := by rw [List.length_take]; omega
      generalize hps : sortI (js.take w.toNat) = ps at hs hsl hsm
      have pw : powOk 1 ps.length = true := by
        unfold powOk
        rw [decide_eq_true (by omega), decide_eq_true (by omega)]; rfl
      have hpl : 2 ^ ps.length ≤ 2 ^ 3 := pow2_le hsl
      have hpc : ((2 ^ ps.length : Nat) : Int) = 2 ^ ps.length := Int.natCast_pow 2 _
      have r2 := it_rn (2 ^ ps.length) (by omega)
      rw [hpc] at r2
      obtain ⟨rs, h5, e5, l5, H5, g5⟩ := lc_hand (C := callN T N (k - 1)) (own := [5]) (t := .name 5) (y := .call 11 [.var 0]) (e := [.val (.ref j), .val (.int (1 + v)), .own ns, .val (.int i), .val (.tup (ps.map D.int)), .none, .none, .none, .none, .none]) (c := 3) (get_set hj (.lst h4)) H4 rfl (fun d => isChD d = true) ((List.range (2 ^ ps.length)).map fun n : Nat => D.int (n : Int)) (by rw [List.length_map, List.length_range]; omega) (fun n x h s hx hs hst HH => by
        have hn : n < 2 ^ ps.length := by
          have := (List.getElem?_eq_some_iff.mp hx).1
          rwa [List.length_map, List.length_range] at this
        obtain ⟨d, h', q1, q2, q3⟩ := share_ok (N := N) t (k := k - 1) (by omega) hN hs HH (by omega)
        refine ⟨d, [.val (.ref j), .val (.int (1 + v)), .own ns, .val (.int i), .val (.tup (ps.map D.int)), .val x, .none, .none, .none, .none], h', ?_, rfl, q3.mono (by omega), q2⟩
        simp [wipeI, q1])
      rw [List.length_map, List.length_range] at l5 H5
      rw [List.set_set] at e5
      refine ⟨.nx, [.val (.ref j), .val (.int (1 + v)), .own (ns ++ [.tup [.tup (ps.map D.int), .tup rs]]), .val (.int i), .val (.tup (ps.map D.int)), .none, .none, .none, .none, .none], st.set j (.lst h5), ?_, .inl rfl, _, _, _, h5, rfl, rfl, by rw [List.length_append, List.length_singleton, q3], ?_, H5.mono (by omega)⟩
      · have hil2 : (i : Int) ≤ 1000000 := by omega
        have hnl : ns.length < 16777216 := by omega
        rw [hre] at e3
        have hlr : pfS (st.set j (.lst h2)) .listR [.int i] = some (.lst (((List.range i).map fun n : Nat => (n : Int)).map D.int), true) := by
          rw [← hre, p_listR, decide_eq_true (by omega), decide_eq_true (by omega)]; rfl
        have hso : pfS (st.set j (.lst h4)) .sorted [.lst ((js.map D.int).take w.toNat)] = some (.lst (ps.map D.int), true) := by
          rw [p_sorted, hil]
          show gd (decide ((js.take w.toNat).length < 16777216)) (D.lst (List.map D.int (sortI (js.take w.toNat))), true) = _
          rw [decide_eq_true hlt, hps]; rfl
        simp only [List.map_map] at hlr e3
        simp [hlr, e3, e4, hc, ↓hso, pw, r2, e5, hnl]
        done
      · intro n d hn
        rcases Nat.lt_or_ge n ns.length with z | z
        · rw [List.getElem?_append_left z] at hn
          exact q4 n d hn
        · rw [List.getElem?_append_right z] at hn
          have : n - ns.length = 0 := by
            have := (List.getElem?_eq_some_iff.mp hn).1
            rw [List.length_singleton] at this
            omega
          rw [this] at hn
          cases hn
          have : n = i := by omega
          subst this
          exact ⟨ps, rs, rfl, hsl, hsm, hs, l5, g5⟩)
    (e := [.val (.ref j), .val (.int (1 + v)), .own [], .none, .none, .none, .none, .none, .none, .none]) (s := st.set j (.lst h1)) ⟨[], .none, .none, h1, rfl, rfl, rfl, fun i d h => by simp at h, by simpa using H1⟩
  have hmany : (1 + v).toNat = ns.length := by rw [l2, List.length_map, List.length_range]
  rw [List.length_map, List.length_range] at H2
  have hd1 : divOk (1 + v) = true := divOk_small (by omega) (by omega)
  obtain ⟨w, h3, e3, w1, w2, H3⟩ := draw_ok (N := N) t.h6 (k := k - 1) (by omega) (get_set hj (.lst h2)) H2 (by omega) (m := 4) (by decide) (by decide)
  rw [List.set_set] at e3
  have r3 := it_ri (1 + w) (by omega) (by omega)
  obtain ⟨ls, h4, e4, l4, H4, g4⟩ := lc_hand (C := callN T N (k - 1)) (own := [6]) (t := .name 6) (y := .call 6 [.var 0, .var 1]) (e := [.val (.ref j), .val (.int (1 + v)), .own ns, x3, x4, .none, .none, .none, .none, .none]) (c := 1) (get_set hj (.lst h3)) H3 rfl (fun d => btw 0 (ns.length - 1) d = true) ((List.range (1 + w).toNat).map fun n : Nat => D.int (n : Int)) (by rw [List.length_map, List.length_range]; omega) (fun n x h s hx hs hst HH => by
    have hn : n < (1 + w).toNat := by
      have := (List.getElem?_eq_some_iff.mp hx).1
      rwa [List.length_map, List.length_range] at this
    obtain ⟨u, h', q1, q2, q3, q4⟩ := draw_ok (N := N) t.h6 (k := k - 1) (by omega) hs HH (by omega) (m := 1 + v) (by omega) hd1
    refine ⟨.int u, [.val (.ref j), .val (.int (1 + v)), .own ns, x3, x4, .none, .val x, .none, .none, .none], h', ?_, rfl, q4.mono (by omega), ?_⟩
    · simp [wipeI, q1]
    · show (decide (0 ≤ u) && decide (u ≤ (ns.length : Int) - 1)) = true
      rw [decide_eq_true q2, decide_eq_true (by omega)]; rfl)
  rw [List.length_map, List.length_range] at l4 H4
  rw [List.set_set] at e4
  obtain ⟨z, h5, e5, z1, z2, H5⟩ := draw_ok (N := N) t.h6 (k := k - 1) (by omega) (get_set hj (.lst h4)) H4 (by omega) (m := 3) (by decide) (by decide)
  rw [List.set_set] at e5
  have r5 := it_ri z (by omega) (by omega)
  obtain ⟨ss, h6, e6, l6, H6, g6⟩ := lc_hand (C := callN T N (k - 1)) (own := [8]) (t := .name 8) (y := .call 6 [.var 0, .var 1]) (e := [.val (.ref j), .val (.int (1 + v)), .own ns, x3, x4, .none, .none, .val (.tup ls), .none, .none]) (c := 1) (get_set hj (.lst h5)) H5 rfl (fun d => btw 0 (ns.length - 1) d = true) ((List.range z.toNat).map fun n : Nat => D.int (n : Int)) (by rw [List.length_map, List.length_range]; omega) (fun n x h s hx hs hst HH => by
    have hn : n < z.toNat := by
      have := (List.getElem?_eq_some_iff.mp hx).1
      rwa [List.length_map, List.length_range] at this
    obtain ⟨u, h', q1, q2, q3, q4⟩ := draw_ok (N := N) t.h6 (k := k - 1) (by omega) hs HH (by omega) (m := 1 + v) (by omega) hd1
    refine ⟨.int u, [.val (.ref j), .val (.int (1 + v)), .own ns, x3, x4, .none, .none, .val (.tup ls), .val x, .none], h', ?_, rfl, q4.mono (by omega), ?_⟩
    · simp [wipeI, q1]
    · show (decide (0 ≤ u) && decide (u ≤ (ns.length : Int) - 1)) = true
      rw [decide_eq_true q2, decide_eq_true (by omega)]; rfl)
  rw [List.length_map, List.length_range] at l6 H6
  rw [List.set_set] at e6
  refine ⟨ns, ls, ss, h6, ?_, ⟨by omega, by omega, g2, by omega, by omega, by omega, g4, g6⟩, H6.mono (by omega)⟩
  simp [d_law_draw_web, startI, e1, r1, e2, e3, r3, e4, e5, r5, e6]
  done
end
end IP

set_option maxHeartbeats 0
namespace K24
open PySem PySem.Spec PyProof.Rows L2 IP
def depth : Nat := 100
def fuel : Nat := 100000
/-! ### the text, and its small form -/
def topS (i : Nat) : Stmt := PySem.Challenge.pw_whatifdrawn_k24_webs_judged.main.body.getD i (.Pass ⟨0, 0, 0, 0⟩)
def topM (i j : Nat) : Stmt := match topS i with
  | .ClassDef (body := b) .. => b.getD j (.Pass ⟨0, 0, 0, 0⟩)
  | s => s
def d_law : FDef := { np := 1, nv := 15, body := [.asg (.name 1) (.call 5 [.var 0]), .for (.name 2) (.rng1) [.con (.int 10)] [.asg (.name 3) (.call 213 [.var 1]), .asg (.tup [4, 5, 6]) (.var 3), .ite (.prim (.isNB true) [.call 191 [.var 3]]) [.ret (.con (.bl false))] [], .par [7, 8] [.call 6 [.var 1, .prim (.len) [.bor 4]], .prim (.len) [.bor 4]], .asg (.tup [9, 10]) (.prim (.idx) [.bor 4, .bor 7]), .asg (.name 11) (.lst [.tup [.prim (.list) [.bor 9], .var 10], .tup [.var 9, .prim (.list) [.bor 10]], .tup [.prim (.add) [.bor 9, .tup [.var 7]], .prim (.mul) [.bor 10, .con (.int 2)]], .tup [.prim (.add) [.bor 9, .tup [.prim (.neg) [.con (.int 1)]]], .prim (.mul) [.bor 10, .con (.int 2)]], .tup [.var 9, .prim (.add) [.bor 10, .tup [.tup [.con (.int 1), .con (.int 2)]]]], .tup [.var 9, .prim (.slc true false) [.bor 10, .con (.int 1)]]]), .asg (.name 11) (.prim (.add) [.bor 11, .lst [.tup [.var 9, .prim (.add) [.tup [.tup [.con (.int 2), .con (.int 1)]], .prim (.slc true false) [.bor 10, .con (.int 1)]]], .tup [.var 9, .prim (.add) [.tup [.tup [.con (.int 2), .con (.int 4)]], .prim (.slc true false) [.bor 10, .con (.int 1)]]], .tup [.var 9, .prim (.add) [.tup [.tup [.con (.int 1), .con (.int 1001)]], .prim (.slc true false) [.bor 10, .con (.int 1)]]], .tup [.var 9, .prim (.add) [.tup [.con (.non)], .prim (.slc true false) [.bor 10, .con (.int 1)]]], .tup [.var 9], .con (.non)]]), .asg (.name 11) (.prim (.add) [.bor 11, .lst [.lst [.var 9, .var 10], .tup [.var 9, .var 10, .con (.int 0)], .tup [.prim (.add) [.tup [.con (.non)], .bor 9], .prim (.mul) [.bor 10, .con (.int 2)]], .tup [.prim (.add) [.tup [.con (.bl true)], .bor 9], .prim (.mul) [.bor 10, .con (.int 2)]]]]), .ite (.prim (.gt) [.prim (.len) [.bor 9], .con (.int 0)]) [.asg (.name 11) (.prim (.add) [.bor 11, .lst [.tup [.prim (.add) [.bor 9, .prim (.slc true false) [.bor 9, .prim (.neg) [.con (.int 1)]]], .prim (.mul) [.bor 10, .con (.int 2)]], .ite (.prim (.eq) [.prim (.idx) [.bor 9, .prim (.neg) [.con (.int 1)]], .con (.int 1)]) (.tup [.prim (.add) [.prim (.slc false true) [.bor 9, .prim (.neg) [.con (.int 1)]], .tup [.con (.bl true)]], .var 10]) (.tup [.prim (.add) [.prim (.rev) [.bor 9], .prim (.slc false true) [.bor 9, .con (.int 1)]], .prim (.mul) [.bor 10, .con (.int 2)]])]])] [], .for (.name 12) (.seq) [.var 11] [.ite (.prim (.isNB false) [.call 191 [.tup [.prim (.add) [.prim (.add) [.prim (.slc false true) [.bor 4, .bor 7], .tup [.var 12]], .prim (.slc true false) [.bor 4, .prim (.add) [.bor 7, .con (.int 1)]]], .var 5, .var 6]]]) [.ret (.con (.bl false))] []], .for (.name 12) (.seq) [.lst [.tup [.var 4, .var 5], .lst [.var 4, .var 5, .var 6], .tup [.var 4, .tup [], .var 6], .tup [.var 4, .prim (.mul) [.bor 5, .con (.int 5)], .var 6], .tup [.var 4, .prim (.add) [.bor 5, .tup [.var 8]], .var 6], .tup [.var 4, .var 5, .prim (.add) [.bor 6, .tup [.var 8]]]]] [.ite (.prim (.isNB false) [.call 191 [.var 12]]) [.ret (.con (.bl false))] []], .for (.name 12) (.seq) [.lst [.tup [.var 4, .prim (.list) [.bor 5], .var 6], .tup [.var 4, .var 5, .prim (.list) [.bor 6]], .tup [.var 4, .prim (.add) [.prim (.slc true false) [.bor 5, .con (.int 1)], .tup [.con (.bl true)]], .var 6], .tup [.var 4, .var 5, .prim (.add) [.bor 6, .tup [.prim (.neg) [.con (.int 1)]]]], .tup [.var 4, .var 5, .tup [.con (.non)]]]] [.ite (.prim (.isNB false) [.call 191 [.var 12]]) [.ret (.con (.bl false))] []]], .asg (.name 13) (.prim (.tuple) [.lc [7] (.name 7) (.rng1) [.con (.int 7)] [] (.tup [.tup [], .tup [.tup [.con (.int 1), .con (.int 2)]]])]), .asg (.name 14) (.prim (.add) [.bor 13, .tup [.tup [.prim (.tupR) [.con (.int 6)], .prim (.mul) [.tup [.tup [.con (.int 1), .con (.int 3)]], .con (.int 64)]]]]), .ite (.or (.prim (.isNB true) [.call 191 [.tup [.var 14, .tup [.con (.int 7)], .tup []]]]) (.prim (.isNB false) [.call 191 [.tup [.prim (.add) [.bor 13, .tup [.tup [.prim (.tupR) [.con (.int 7)], .prim (.mul) [.tup [.tup [.con (.int 1), .con (.int 3)]], .con (.int 128)]]]], .tup [.con (.int 7)], .tup []]]])) [.ret (.con (.bl false))] [], .ret (.and (.prim (.isB true) [.call 191 [.tup [.prim (.mul) [.prim (.slc false true) [.bor 13, .con (.int 1)], .con (.int 400)], .tup [.con (.int 0)], .tup []]]]) (.and (.prim (.isB false) [.call 191 [.tup [.prim (.mul) [.prim (.slc false true) [.bor 13, .con (.int 1)], .con (.int 401)], .tup [.con (.int 0)], .tup []]]]) (.prim (.isB false) [.call 191 [.tup [.tup [], .tup [.con (.int 0)], .tup []]]])))], ini := false }
def gG : G := ⟨[("is_integer", 0), ("is_between", 34), ("common", 1), ("is_fraction", 2), ("is_chance", 3), ("is_node", 190), ("is_web", 191), ("_law_hand", 5), ("_law_draw", 6), ("_law_some", 7), ("_law_mixed", 85), ("_law_common", 9), ("_law_part", 10), ("_law_share", 11), ("_law_draw_web", 213), ("law", 216)], [("MOST_PART", .int 1000), ("MOST_LETTERS", .int 4), ("MOST_NODES", .int 400), ("MOST_PARENTS", .int 6)], [], ["len", "abs", "all", "int", "tuple", "list", "isinstance", "bool", "range", "enumerate", "sorted"], [], [], []⟩
def sbL : SubT := []
def f_is_integer : FnD := ⟨0, "is_integer", topS 2, ["thing"], ["thing"], false, d_is_integer, none, "is_integer", true⟩
def f_is_between : FnD := ⟨34, "is_between", topS 3, ["thing", "least", "greatest"], ["thing", "least", "greatest"], false, d_is_between, none, "is_between", true⟩
def f_common : FnD := ⟨1, "common", topS 4, ["one", "other"], ["one", "other"], false, d_common, none, "common", true⟩
def f_is_fraction : FnD := ⟨2, "is_fraction", topS 5, ["thing"], ["thing", "part"], false, d_is_fraction, none, "is_fraction", true⟩
def f_is_chance : FnD := ⟨3, "is_chance", topS 6, ["thing"], ["thing"], false, d_is_chance, none, "is_chance", true⟩
def f_is_node : FnD := ⟨190, "is_node", topS 11, ["at", "thing"], ["at", "thing", "part", "parents", "row", "parent", "place", "one"], false, d_is_node, none, "is_node", true⟩
def f_is_web : FnD := ⟨191, "is_web", topS 12, ["thing"], ["thing", "part", "nodes", "letters", "seen", "at", "node"], false, d_is_web, none, "is_web", true⟩
def f_law_hand : FnD := ⟨5, "_law_hand", topS 14, ["script"], ["script", "cell", "cells"], true, d_law_hand, none, "_law_hand", true⟩
def f_law_draw : FnD := ⟨6, "_law_draw", topS 15, ["hand", "many"], ["hand", "many", "cell", "digit", "number"], false, d_law_draw, none, "_law_draw", true⟩
def f_law_some : FnD := ⟨7, "_law_some", topS 16, ["hand", "things"], ["hand", "things"], false, d_law_some, none, "_law_some", true⟩
def f_law_mixed : FnD := ⟨85, "_law_mixed", topS 17, ["hand", "things"], ["hand", "things", "left", "found"], false, d_law_mixed, none, "_law_mixed", true⟩
def f_law_common : FnD := ⟨9, "_law_common", topS 18, ["one", "other"], ["one", "other"], false, d_law_common, none, "_law_common", true⟩
def f_law_part : FnD := ⟨10, "_law_part", topS 19, ["top", "bottom"], ["top", "bottom", "many"], false, d_law_part, none, "_law_part", true⟩
def f_law_share : FnD := ⟨11, "_law_share", topS 20, ["hand"], ["hand", "kind", "bottom"], false, d_law_share, none, "_law_share", true⟩
def f_law_draw_web : FnD := ⟨213, "_law_draw_web", topS 21, ["hand"], ["hand", "many", "nodes", "at", "parents", "row", "letter", "letters", "turn", "seen"], false, d_law_draw_web, none, "_law_draw_web", true⟩
def f_law : FnD := ⟨216, "law", topS 22, ["script"], ["script", "hand", "turn", "web", "nodes", "letters", "seen", "at", "many", "parents", "row", "odd", "bad", "seven", "good"], false, d_law, none, "law", true⟩
def lL : List FnD := [f_is_integer, f_is_between, f_common, f_is_fraction, f_is_chance, f_is_node, f_is_web, f_law_hand, f_law_draw, f_law_some, f_law_mixed, f_law_common, f_law_part, f_law_share, f_law_draw_web, f_law]
def tT : Tab := ⟨(lL.filter fun F => F.ok).map fun F => (F.ix, F.d), fun a b => sbL.lookup (a, b)⟩
theorem c_is_integer : f_is_integer.ok = true → compF gG f_is_integer.bx f_is_integer.ps f_is_integer.N f_is_integer.st = some f_is_integer.d := fun _ => rfl
theorem s_is_integer : f_is_integer.ok = true → FnScope f_is_integer.N f_is_integer.ps (defScope f_is_integer.st) := fun _ => ⟨rfl, rfl, rfl, by decide +kernel, rfl, by decide +kernel, by decide +kernel⟩
theorem b_is_integer (kV doc pm : Value) (an : Option Addr) (cdv ct : Value) (us : List Value) (h : us.length = f_is_integer.ps.length) : bindArgs (PySem.W.fnOf f_is_integer.nm f_is_integer.qn (defArgs f_is_integer.st) (defBody f_is_integer.st) (defScope f_is_integer.st) .none kV doc pm an cdv ct) ⟨us, []⟩ = pure (f_is_integer.ps.zip us) := match us, h with | [_], _ => rfl
theorem c_is_between : f_is_between.ok = true → compF gG f_is_between.bx f_is_between.ps f_is_between.N f_is_between.st = some f_is_between.d := fun _ => rfl
theorem s_is_between : f_is_between.ok = true → FnScope f_is_between.N f_is_between.ps (defScope f_is_between.st) := fun _ => ⟨rfl, rfl, rfl, by decide +kernel, rfl, by decide +kernel, by decide +kernel⟩
theorem b_is_between (kV doc pm : Value) (an : Option Addr) (cdv ct : Value) (us : List Value) (h : us.length = f_is_between.ps.length) : bindArgs (PySem.W.fnOf f_is_between.nm f_is_between.qn (defArgs f_is_between.st) (defBody f_is_between.st) (defScope f_is_between.st) .none kV doc pm an cdv ct) ⟨us, []⟩ = pure (f_is_between.ps.zip us) := match us, h with | [_, _, _], _ => rfl
theorem c_common : f_common.ok = true → compF gG f_common.bx f_common.ps f_common.N f_common.st = some f_common.d := fun _ => rfl
theorem s_common : f_common.ok = true → FnScope f_common.N f_common.ps (defScope f_common.st) := fun _ => ⟨rfl, rfl, rfl, by decide +kernel, rfl, by decide +kernel, by decide +kernel⟩
theorem b_common (kV doc pm : Value) (an : Option Addr) (cdv ct : Value) (us : List Value) (h : us.length = f_common.ps.length) : bindArgs (PySem.W.fnOf f_common.nm f_common.qn (defArgs f_common.st) (defBody f_common.st) (defScope f_common.st) .none kV doc pm an cdv ct) ⟨us, []⟩ = pure (f_common.ps.zip us) := match us, h with | [_, _], _ => rfl
theorem c_is_fraction : f_is_fraction.ok = true → compF gG f_is_fraction.bx f_is_fraction.ps f_is_fraction.N f_is_fraction.st = some f_is_fraction.d := fun _ => rfl
theorem s_is_fraction : f_is_fraction.ok = true → FnScope f_is_fraction.N f_is_fraction.ps (defScope f_is_fraction.st) := fun _ => ⟨rfl, rfl, rfl, by decide +kernel, rfl, by decide +kernel, by decide +kernel⟩
theorem b_is_fraction (kV doc pm : Value) (an : Option Addr) (cdv ct : Value) (us : List Value) (h : us.length = f_is_fraction.ps.length) : bindArgs (PySem.W.fnOf f_is_fraction.nm f_is_fraction.qn (defArgs f_is_fraction.st) (defBody f_is_fraction.st) (defScope f_is_fraction.st) .none kV doc pm an cdv ct) ⟨us, []⟩ = pure (f_is_fraction.ps.zip us) := match us, h with | [_], _ => rfl
theorem c_is_chance : f_is_chance.ok = true → compF gG f_is_chance.bx f_is_chance.ps f_is_chance.N f_is_chance.st = some f_is_chance.d := fun _ => rfl
theorem s_is_chance : f_is_chance.ok = true → FnScope f_is_chance.N f_is_chance.ps (defScope f_is_chance.st) := fun _ => ⟨rfl, rfl, rfl, by decide +kernel, rfl, by decide +kernel, by decide +kernel⟩
theorem b_is_chance (kV doc pm : Value) (an : Option Addr) (cdv ct : Value) (us : List Value) (h : us.length = f_is_chance.ps.length) : bindArgs (PySem.W.fnOf f_is_chance.nm f_is_chance.qn (defArgs f_is_chance.st) (defBody f_is_chance.st) (defScope f_is_chance.st) .none kV doc pm an cdv ct) ⟨us, []⟩ = pure (f_is_chance.ps.zip us) := match us, h with | [_], _ => rfl
theorem c_is_node : f_is_node.ok = true → compF gG f_is_node.bx f_is_node.ps f_is_node.N f_is_node.st = some f_is_node.d := fun _ => rfl
theorem s_is_node : f_is_node.ok = true → FnScope f_is_node.N f_is_node.ps (defScope f_is_node.st) := fun _ => ⟨rfl, rfl, rfl, by decide +kernel, rfl, by decide +kernel, by decide +kernel⟩
theorem b_is_node (kV doc pm : Value) (an : Option Addr) (cdv ct : Value) (us : List Value) (h : us.length = f_is_node.ps.length) : bindArgs (PySem.W.fnOf f_is_node.nm f_is_node.qn (defArgs f_is_node.st) (defBody f_is_node.st) (defScope f_is_node.st) .none kV doc pm an cdv ct) ⟨us, []⟩ = pure (f_is_node.ps.zip us) := match us, h with | [_, _], _ => rfl
theorem c_is_web : f_is_web.ok = true → compF gG f_is_web.bx f_is_web.ps f_is_web.N f_is_web.st = some f_is_web.d := fun _ => rfl
theorem s_is_web : f_is_web.ok = true → FnScope f_is_web.N f_is_web.ps (defScope f_is_web.st) := fun _ => ⟨rfl, rfl, rfl, by decide +kernel, rfl, by decide +kernel, by decide +kernel⟩
theorem b_is_web (kV doc pm : Value) (an : Option Addr) (cdv ct : Value) (us : List Value) (h : us.length = f_is_web.ps.length) : bindArgs (PySem.W.fnOf f_is_web.nm f_is_web.qn (defArgs f_is_web.st) (defBody f_is_web.st) (defScope f_is_web.st) .none kV doc pm an cdv ct) ⟨us, []⟩ = pure (f_is_web.ps.zip us) := match us, h with | [_], _ => rfl
theorem c_law_hand : f_law_hand.ok = true → compF gG f_law_hand.bx f_law_hand.ps f_law_hand.N f_law_hand.st = some f_law_hand.d := fun _ => rfl
theorem s_law_hand : f_law_hand.ok = true → FnScope f_law_hand.N f_law_hand.ps (defScope f_law_hand.st) := fun _ => ⟨rfl, rfl, rfl, by decide +kernel, rfl, by decide +kernel, by decide +kernel⟩
theorem b_law_hand (kV doc pm : Value) (an : Option Addr) (cdv ct : Value) (us : List Value) (h : us.length = f_law_hand.ps.length) : bindArgs (PySem.W.fnOf f_law_hand.nm f_law_hand.qn (defArgs f_law_hand.st) (defBody f_law_hand.st) (defScope f_law_hand.st) .none kV doc pm an cdv ct) ⟨us, []⟩ = pure (f_law_hand.ps.zip us) := match us, h with | [_], _ => rfl
theorem c_law_draw : f_law_draw.ok = true → compF gG f_law_draw.bx f_law_draw.ps f_law_draw.N f_law_draw.st = some f_law_draw.d := fun _ => rfl
theorem s_law_draw : f_law_draw.ok = true → FnScope f_law_draw.N f_law_draw.ps (defScope f_law_draw.st) := fun _ => ⟨rfl, rfl, rfl, by decide +kernel, rfl, by decide +kernel, by decide +kernel⟩
theorem b_law_draw (kV doc pm : Value) (an : Option Addr) (cdv ct : Value) (us : List Value) (h : us.length = f_law_draw.ps.length) : bindArgs (PySem.W.fnOf f_law_draw.nm f_law_draw.qn (defArgs f_law_draw.st) (defBody f_law_draw.st) (defScope f_law_draw.st) .none kV doc pm an cdv ct) ⟨us, []⟩ = pure (f_law_draw.ps.zip us) := match us, h with | [_, _], _ => rfl
theorem c_law_some : f_law_some.ok = true → compF gG f_law_some.bx f_law_some.ps f_law_some.N f_law_some.st = some f_law_some.d := fun _ => rfl
theorem s_law_some : f_law_some.ok = true → FnScope f_law_some.N f_law_some.ps (defScope f_law_some.st) := fun _ => ⟨rfl, rfl, rfl, by decide +kernel, rfl, by decide +kernel, by decide +kernel⟩
theorem b_law_some (kV doc pm : Value) (an : Option Addr) (cdv ct : Value) (us : List Value) (h : us.length = f_law_some.ps.length) : bindArgs (PySem.W.fnOf f_law_some.nm f_law_some.qn (defArgs f_law_some.st) (defBody f_law_some.st) (defScope f_law_some.st) .none kV doc pm an cdv ct) ⟨us, []⟩ = pure (f_law_some.ps.zip us) := match us, h with | [_, _], _ => rfl
theorem c_law_mixed : f_law_mixed.ok = true → compF gG f_law_mixed.bx f_law_mixed.ps f_law_mixed.N f_law_mixed.st = some f_law_mixed.d := fun _ => rfl
theorem s_law_mixed : f_law_mixed.ok = true → FnScope f_law_mixed.N f_law_mixed.ps (defScope f_law_mixed.st) := fun _ => ⟨rfl, rfl, rfl, by decide +kernel, rfl, by decide +kernel, by decide +kernel⟩
theorem b_law_mixed (kV doc pm : Value) (an : Option Addr) (cdv ct : Value) (us : List Value) (h : us.length = f_law_mixed.ps.length) : bindArgs (PySem.W.fnOf f_law_mixed.nm f_law_mixed.qn (defArgs f_law_mixed.st) (defBody f_law_mixed.st) (defScope f_law_mixed.st) .none kV doc pm an cdv ct) ⟨us, []⟩ = pure (f_law_mixed.ps.zip us) := match us, h with | [_, _], _ => rfl
theorem c_law_common : f_law_common.ok = true → compF gG f_law_common.bx f_law_common.ps f_law_common.N f_law_common.st = some f_law_common.d := fun _ => rfl
theorem s_law_common : f_law_common.ok = true → FnScope f_law_common.N f_law_common.ps (defScope f_law_common.st) := fun _ => ⟨rfl, rfl, rfl, by decide +kernel, rfl, by decide +kernel, by decide +kernel⟩
theorem b_law_common (kV doc pm : Value) (an : Option Addr) (cdv ct : Value) (us : List Value) (h : us.length = f_law_common.ps.length) : bindArgs (PySem.W.fnOf f_law_common.nm f_law_common.qn (defArgs f_law_common.st) (defBody f_law_common.st) (defScope f_law_common.st) .none kV doc pm an cdv ct) ⟨us, []⟩ = pure (f_law_common.ps.zip us) := match us, h with | [_, _], _ => rfl
theorem c_law_part : f_law_part.ok = true → compF gG f_law_part.bx f_law_part.ps f_law_part.N f_law_part.st = some f_law_part.d := fun _ => rfl
theorem s_law_part : f_law_part.ok = true → FnScope f_law_part.N f_law_part.ps (defScope f_law_part.st) := fun _ => ⟨rfl, rfl, rfl, by decide +kernel, rfl, by decide +kernel, by decide +kernel⟩
theorem b_law_part (kV doc pm : Value) (an : Option Addr) (cdv ct : Value) (us : List Value) (h : us.length = f_law_part.ps.length) : bindArgs (PySem.W.fnOf f_law_part.nm f_law_part.qn (defArgs f_law_part.st) (defBody f_law_part.st) (defScope f_law_part.st) .none kV doc pm an cdv ct) ⟨us, []⟩ = pure (f_law_part.ps.zip us) := match us, h with | [_, _], _ => rfl
theorem c_law_share : f_law_share.ok = true → compF gG f_law_share.bx f_law_share.ps f_law_share.N f_law_share.st = some f_law_share.d := fun _ => rfl
theorem s_law_share : f_law_share.ok = true → FnScope f_law_share.N f_law_share.ps (defScope f_law_share.st) := fun _ => ⟨rfl, rfl, rfl, by decide +kernel, rfl, by decide +kernel, by decide +kernel⟩
theorem b_law_share (kV doc pm : Value) (an : Option Addr) (cdv ct : Value) (us : List Value) (h : us.length = f_law_share.ps.length) : bindArgs (PySem.W.fnOf f_law_share.nm f_law_share.qn (defArgs f_law_share.st) (defBody f_law_share.st) (defScope f_law_share.st) .none kV doc pm an cdv ct) ⟨us, []⟩ = pure (f_law_share.ps.zip us) := match us, h with | [_], _ => rfl
theorem c_law_draw_web : f_law_draw_web.ok = true → compF gG f_law_draw_web.bx f_law_draw_web.ps f_law_draw_web.N f_law_draw_web.st = some f_law_draw_web.d := fun _ => rfl
theorem s_law_draw_web : f_law_draw_web.ok = true → FnScope f_law_draw_web.N f_law_draw_web.ps (defScope f_law_draw_web.st) := fun _ => ⟨rfl, rfl, rfl, by decide +kernel, rfl, by decide +kernel, by decide +kernel⟩
theorem b_law_draw_web (kV doc pm : Value) (an : Option Addr) (cdv ct : Value) (us : List Value) (h : us.length = f_law_draw_web.ps.length) : bindArgs (PySem.W.fnOf f_law_draw_web.nm f_law_draw_web.qn (defArgs f_law_draw_web.st) (defBody f_law_draw_web.st) (defScope f_law_draw_web.st) .none kV doc pm an cdv ct) ⟨us, []⟩ = pure (f_law_draw_web.ps.zip us) := match us, h with | [_], _ => rfl
theorem c_law : f_law.ok = true → compF gG f_law.bx f_law.ps f_law.N f_law.st = some f_law.d := fun _ => rfl
theorem s_law : f_law.ok = true → FnScope f_law.N f_law.ps (defScope f_law.st) := fun _ => ⟨rfl, rfl, rfl, by decide +kernel, rfl, by decide +kernel, by decide +kernel⟩
theorem b_law (kV doc pm : Value) (an : Option Addr) (cdv ct : Value) (us : List Value) (h : us.length = f_law.ps.length) : bindArgs (PySem.W.fnOf f_law.nm f_law.qn (defArgs f_law.st) (defBody f_law.st) (defScope f_law.st) .none kV doc pm an cdv ct) ⟨us, []⟩ = pure (f_law.ps.zip us) := match us, h with | [_], _ => rfl
def gfB : Bool := gG.fns.all fun p => lL.any fun F => F.nm == p.1 && F.ix == p.2 && F.cl.isNone && !F.d.ini
def gcB : Bool := gG.cls.all fun p => lL.any fun F => F.nm == "__init__" && F.ix == p.2.1 && F.cl == some p.1 && F.d.ini
def gmB : Bool := gG.mth.all fun p => p.2.all fun q => lL.any fun F => F.nm == p.1 && F.ix == q.2 && F.cl == some q.1 && !F.d.ini
theorem stat : Stat gG tT lL sbL := ⟨rfl, gfn_of (by decide +kernel), gcl_of (by decide +kernel), gmt_of (by decide +kernel), by decide +kernel, (all_cons c_is_integer (all_cons c_is_between (all_cons c_common (all_cons c_is_fraction (all_cons c_is_chance (all_cons c_is_node (all_cons c_is_web (all_cons c_law_hand (all_cons c_law_draw (all_cons c_law_some (all_cons c_law_mixed (all_cons c_law_common (all_cons c_law_part (all_cons c_law_share (all_cons c_law_draw_web (all_cons c_law all_nil)))))))))))))))), (all_cons s_is_integer (all_cons s_is_between (all_cons s_common (all_cons s_is_fraction (all_cons s_is_chance (all_cons s_is_node (all_cons s_is_web (all_cons s_law_hand (all_cons s_law_draw (all_cons s_law_some (all_cons s_law_mixed (all_cons s_law_common (all_cons s_law_part (all_cons s_law_share (all_cons s_law_draw_web (all_cons s_law all_nil)))))))))))))))), (all_cons b_is_integer (all_cons b_is_between (all_cons b_common (all_cons b_is_fraction (all_cons b_is_chance (all_cons b_is_node (all_cons b_is_web (all_cons b_law_hand (all_cons b_law_draw (all_cons b_law_some (all_cons b_law_mixed (all_cons b_law_common (all_cons b_law_part (all_cons b_law_share (all_cons b_law_draw_web (all_cons b_law all_nil)))))))))))))))), fun a b r h => lookup_mem h, exn_of (by decide +kernel)⟩

/-! ### the plain law -/
def tJ : TJ tT := ⟨rfl, rfl, rfl, rfl, rfl⟩
def tD : TD tT := ⟨rfl, rfl, rfl, rfl, rfl⟩
theorem webD {k : Nat} (hk : 5 ≤ k) (d : D) (hd : okWeb d = true) {b : Bool} (hb : isWebD d = b) (st : Sto) : callN tT fuel k 191 [d] st = .ok (.bl b) false st := by
  rw [is_web_ok (N := fuel) tJ rfl rfl hk (by decide) d hd st, hb]
def halfs (n : Nat) (d : D) : List D := List.replicate n d
/-- the nodes that are none, at a place -/
def oddL (ps : List Int) (rs : List D) (a : Int) : List D :=
  [.tup [.lst (ps.map D.int), .tup rs], .tup [.tup (ps.map D.int), .lst rs], .tup [.tup (ps.map D.int ++ [.int a]), .tup (List.replicate (Int.toNat 2) rs).flatten], .tup [.tup (ps.map D.int ++ [.int (-1)]), .tup (List.replicate (Int.toNat 2) rs).flatten], .tup [.tup (ps.map D.int), .tup (rs ++ [.tup [.int 1, .int 2]])], .tup [.tup (ps.map D.int), .tup (cutD rs (some 1) none)]] ++
  [.tup [.tup (ps.map D.int), .tup ([.tup [.int 2, .int 1]] ++ cutD rs (some 1) none)], .tup [.tup (ps.map D.int), .tup ([.tup [.int 2, .int 4]] ++ cutD rs (some 1) none)], .tup [.tup (ps.map D.int), .tup ([.tup [.int 1, .int 1001]] ++ cutD rs (some 1) none)], .tup [.tup (ps.map D.int), .tup ([.non] ++ cutD rs (some 1) none)], .tup [.tup (ps.map D.int)], .non] ++
  [.lst [.tup (ps.map D.int), .tup rs], .tup [.tup (ps.map D.int), .tup rs, .int 0], .tup [.tup ([.non] ++ ps.map D.int), .tup (List.replicate (Int.toNat 2) rs).flatten], .tup [.tup ([.bl true] ++ ps.map D.int), .tup (List.replicate (Int.toNat 2) rs).flatten]] ++
  (match ps with
  | [] => []
  | p :: q => [.tup [.tup ((p :: q).map D.int ++ cutD ((p :: q).map D.int) (some (-1)) none), .tup (List.replicate (Int.toNat 2) rs).flatten], if (p :: q).getLast (List.cons_ne_nil _ _) = 1 then .tup [.tup (cutD ((p :: q).map D.int) none (some (-1)) ++ [.bl true]), .tup rs] else .tup [.tup (((p :: q).map D.int).reverse ++ cutD ((p :: q).map D.int) none (some 1)), .tup (List.replicate (Int.toNat 2) rs).flatten]])
theorem okD_ints (ps : List Int) : (ps.map D.int).all okD = true := by
  rw [List.all_eq_true]
  intro x hx
  obtain ⟨i, _, rfl⟩ := List.mem_map.mp hx
  rfl
/-- what is judged of a pair -/
theorem node_pair {ps rs : List D} (h1 : ps.length ≤ 1000) (h2 : ps.all okD = true) (h3 : rs.length ≤ 100000) (h4 : ∀ r ∈ rs, okS r = true) : okNode (.tup [.tup ps, .tup rs]) = true := by
  show (true && ((true && (true && true)) && (decide (ps.length ≤ 1000) && (ps.all okD && (decide (rs.length ≤ 100000) && rs.all okS))))) = true
  rw [decide_eq_true h1, h2, decide_eq_true h3, List.all_eq_true.mpr h4]; rfl
theorem node_none {a : Int} {ps rs : List D} (h : ps.all (btw 0 (a - 1)) = false ∨ ascR (ps.map IP.intD) = false ∨ rs.length ≠ 2 ^ ps.length ∨ ∃ r ∈ rs, isChD r = false) : isNodeD a (.tup [.tup ps, .tup rs]) = false := by
  show (decide (ps.length ≤ 6) && (ps.all (btw 0 (a - 1)) && (ascR (ps.map IP.intD) && (decide (rs.length = 2 ^ ps.length) && rs.all isChD)))) = false
  rcases h with h | h | h | ⟨r, hr, h⟩
  · rw [h]; simp
  · rw [h]; simp
  · rw [decide_eq_false h]; simp
  · have : rs.all isChD = false := by
      rw [List.all_eq_false]
      exact ⟨r, hr, by rw [h]; decide⟩
    rw [this]; simp
theorem double_len (rs : List D) : ((List.replicate (Int.toNat 2) rs).flatten).length = 2 * rs.length := by
  show ((List.replicate 2 rs).flatten).length = _
  simp [List.replicate]; omega
theorem double_mem {rs : List D} {r : D} (h : r ∈ (List.replicate (Int.toNat 2) rs).flatten) : r ∈ rs := by
  obtain ⟨l, hl, hr⟩ := List.mem_flatten.mp h
  rw [(List.mem_replicate.mp hl).2] at hr
  exact hr
theorem btw_all_false {a : Int} {ps : List D} {p : D} (hp : p ∈ ps) (h : btw 0 (a - 1) p = false) : ps.all (btw 0 (a - 1)) = false := by
  rw [List.all_eq_false]
  exact ⟨p, hp, by rw [h]; decide⟩
theorem odd_bad {a : Nat} {ps : List Int} {rs : List D} (h1 : ps.length ≤ 3) (h2 : rs.length = 2 ^ ps.length) (h3 : ∀ r ∈ rs, isChD r = true) : ∀ x ∈ oddL ps rs a, okNode x = true ∧ isNodeD a x = false := by
  have hs : ∀ r ∈ rs, okS r = true := fun r hr => ch_ok (h3 r hr)
  have hp : (ps.map D.int).length ≤ 1000 := by rw [List.length_map]; omega
  have hpl : 2 ^ ps.length ≤ 2 ^ 3 := pow2_le h1
  have hrl : rs.length ≤ 100000 := by omega
  have hpos : 0 < rs.length := by rw [h2]; exact Nat.pow_pos (by decide)
  have hpi := okD_ints ps
  have hd : ∀ x ∈ cutD rs (some 1) none, okS x = true := fun x hx => by
    rw [cut_drop _ (by decide)] at hx
    exact hs x (List.mem_of_mem_drop hx)
  have hdl : (cutD rs (some 1) none).length + 1 = rs.length := by
    rw [cut_drop _ (by decide), List.length_drop]
    show rs.length - 1 + 1 = _
    omega
  have h2s : ∀ r ∈ (List.replicate (Int.toNat 2) rs).flatten, okS r = true := fun r hr => hs r (double_mem hr)
  have h2l : ((List.replicate (Int.toNat 2) rs).flatten).length ≤ 100000 := by rw [double_len]; omega
  have hcons : ∀ z : D, okS z = true → ∀ r ∈ [z] ++ cutD rs (some 1) none, okS r = true := fun z hz r hr => by
    rcases List.mem_append.mp hr with hr | hr
    · rw [List.mem_singleton.mp hr]; exact hz
    · exact hd r hr
  have hbad : ∀ z : D, okS z = true → isChD z = false → okNode (.tup [.tup (ps.map D.int), .tup ([z] ++ cutD rs (some 1) none)]) = true ∧ isNodeD a (.tup [.tup (ps.map D.int), .tup ([z] ++ cutD rs (some 1) none)]) = false := fun z z1 z2 =>
    ⟨node_pair hp hpi (by rw [List.length_append, List.length_singleton]; omega) (hcons z z1), node_none (.inr (.inr (.inr ⟨z, List.mem_append_left _ (List.mem_singleton.mpr rfl), z2⟩)))⟩
  have hpar : ∀ zs : List D, zs.length ≤ 1000 → zs.all okD = true → (zs.all (btw 0 (a - 1)) = false ∨ ascR (zs.map IP.intD) = false) → okNode (.tup [.tup zs, .tup (List.replicate (Int.toNat 2) rs).flatten]) = true ∧ isNodeD a (.tup [.tup zs, .tup (List.replicate (Int.toNat 2) rs).flatten]) = false := fun zs z1 z2 z3 =>
    ⟨node_pair z1 z2 h2l h2s, node_none (z3.elim .inl fun z => .inr (.inl z))⟩
  intro x hx
  unfold oddL at hx
  rcases List.mem_append.mp hx with hx | hx
  · simp only [List.mem_append, List.mem_cons, List.not_mem_nil, or_false] at hx
    rcases hx with ((hx | hx | hx | hx | hx | hx) | (hx | hx | hx | hx | hx | hx)) | (hx | hx | hx | hx) <;> subst hx
    · exact ⟨rfl, rfl⟩
    · exact ⟨rfl, rfl⟩
    · exact hpar _ (by rw [List.length_append, List.length_map]; show ps.length + 1 ≤ _; omega) (by rw [List.all_append, hpi]; rfl) (.inl (btw_all_false (p := .int a) (by simp) (by show (decide (0 ≤ (a : Int)) && decide ((a : Int) ≤ a - 1)) = false; rw [decide_eq_false (show ¬ (a : Int) ≤ a - 1 by omega), Bool.and_false])))
    · exact hpar _ (by rw [List.length_append, List.length_map]; show ps.length + 1 ≤ _; omega) (by rw [List.all_append, hpi]; rfl) (.inl (btw_all_false (p := .int (-1)) (by simp) rfl))
    · exact ⟨node_pair hp hpi (by rw [List.length_append, List.length_singleton]; omega) (fun r hr => by
        rcases List.mem_append.mp hr with hr | hr
        · exact hs r hr
        · rw [List.mem_singleton.mp hr]; decide +kernel), node_none (.inr (.inr (.inl (by rw [List.length_append, List.length_singleton, List.length_map]; omega))))⟩
    · exact ⟨node_pair hp hpi (by omega) hd, node_none (.inr (.inr (.inl (by rw [List.length_map]; omega))))⟩
    · exact hbad _ (by decide +kernel) (by decide +kernel)
    · exact hbad _ (by decide +kernel) (by decide +kernel)
    · exact hbad _ (by decide +kernel) (by decide +kernel)
    · exact hbad _ (by decide +kernel) (by decide +kernel)
    · exact ⟨rfl, rfl⟩
    · exact ⟨rfl, rfl⟩
    · exact ⟨rfl, rfl⟩
    · exact ⟨rfl, rfl⟩
    · exact hpar _ (by rw [List.length_append, List.length_map]; show 1 + ps.length ≤ _; omega) (by rw [List.all_append, hpi]; rfl) (.inl rfl)
    · exact hpar _ (by rw [List.length_append, List.length_map]; show 1 + ps.length ≤ _; omega) (by rw [List.all_append, hpi]; rfl) (.inl rfl)
  · cases ps with
    | nil => cases hx
    | cons p q =>
      obtain ⟨ini, l, hil⟩ : ∃ (ini : List Int) (l : Int), p :: q = ini ++ [l] := ⟨_, _, (List.dropLast_concat_getLast (List.cons_ne_nil p q)).symm⟩
      simp only [List.mem_cons, List.not_mem_nil, or_false] at hx
      have hm : (p :: q).map D.int = ini.map D.int ++ [D.int l] := by rw [hil, List.map_append]; rfl
      have hlen : ini.length + 1 ≤ 3 := by rw [hil, List.length_append, List.length_singleton] at h1; exact h1
      rw [hm, cut_last, cut_init] at hx
      have hint : IP.intD ∘ D.int = id := rfl
      rcases hx with hx | hx
      · subst hx
        refine hpar _ (by simp; omega) (by simp [okD]) (.inr ?_)
        have : (ini.map D.int ++ [D.int l] ++ [D.int l]).map IP.intD = ini ++ [l, l] := by
          rw [List.append_assoc, List.map_append, List.map_map, hint, List.map_id]; rfl
        rw [this]
        exact asc_not ini l
      · split at hx
        · subst hx
          refine ⟨node_pair (by simp; omega) (by simp [okD]) hrl hs, node_none (.inl (btw_all_false (p := .bl true) (by simp) rfl))⟩
        · subst hx
          refine hpar _ ?_ ?_ (.inr ?_)
          · rw [cut_take _ (by decide)]; simp; omega
          · rw [List.all_append, ← hm, List.all_reverse, hpi, Bool.true_and, List.all_eq_true]
            intro x hx
            rw [cut_take _ (by decide)] at hx
            exact List.all_eq_true.mp hpi x (List.mem_of_mem_take hx)
          · have e1 : IP.cutD (ini.map D.int ++ [D.int l]) none (some 1) = [D.int p] := by
              rw [← hm, cut_take _ (by decide)]; rfl
            have e2 : (ini.map D.int ++ [D.int l]).reverse = (q.reverse.map D.int) ++ [D.int p] := by
              rw [← hm, List.map_cons, List.reverse_cons, List.map_reverse]
            rw [e1, e2]
            have : (q.reverse.map D.int ++ [D.int p] ++ [D.int p]).map IP.intD = q.reverse ++ [p, p] := by
              rw [List.append_assoc, List.map_append, List.map_map, hint, List.map_id]; rfl
            rw [this]
            exact asc_not _ p
/-- good nodes -/
theorem good_node {i : Nat} {d : D} (h : NodeG i d) : okNode d = true ∧ isNodeD i d = true := by
  obtain ⟨ps, rs, rfl, h1, h2, h3, h4, h5⟩ := h.ex
  have hpl : 2 ^ ps.length ≤ 2 ^ 3 := pow2_le h1
  refine ⟨node_pair (by rw [List.length_map]; omega) (okD_ints ps) (by omega) fun r hr => ch_ok (h5 r hr), ?_⟩
  show (decide ((ps.map D.int).length ≤ 6) && ((ps.map D.int).all (btw 0 ((i : Int) - 1)) && (ascR ((ps.map D.int).map IP.intD) && (decide (rs.length = 2 ^ (ps.map D.int).length) && rs.all isChD)))) = true
  have hint : IP.intD ∘ D.int = id := rfl
  have hb : (ps.map D.int).all (btw 0 ((i : Int) - 1)) = true := by
    rw [List.all_eq_true]
    intro x hx
    obtain ⟨p, hp, rfl⟩ := List.mem_map.mp hx
    have := h2 p hp
    show (decide (0 ≤ p) && decide (p ≤ (i : Int) - 1)) = true
    rw [decide_eq_true this.1, decide_eq_true (by omega)]; rfl
  rw [List.length_map, decide_eq_true (by omega), hb, List.map_map, hint, List.map_id, asc_of h3, decide_eq_true h4, List.all_eq_true.mpr h5]
  rfl
theorem enum_at {ns : List D} {i : Nat} {d : D} (h : ns[i]? = some d) : D.tup [.int i, d] ∈ enumD ns := by
  unfold enumD
  rw [List.mem_map]
  exact ⟨(d, i), List.mem_zipIdx_iff_getElem?.mpr (by simpa using h), rfl⟩
theorem web_parts {ns ls ss : List D} (h1 : ns.length ≤ 1000) (h2 : ∀ x ∈ ns, okNode x = true) (h3 : ls.length ≤ 1000) (h4 : ss.length ≤ 1000) (h5 : ∀ x ∈ ls, okD x = true) (h6 : ∀ x ∈ ss, okD x = true) : okWeb (.tup [.tup ns, .tup ls, .tup ss]) = true := by
  show (true && ((true && (true && (true && true))) && (decide (ns.length ≤ 1000) && (ns.all okNode && (decide (ls.length ≤ 1000) && (decide (ss.length ≤ 1000) && (ls ++ ss).all okD)))))) = true
  rw [decide_eq_true h1, List.all_eq_true.mpr h2, decide_eq_true h3, decide_eq_true h4, List.all_append, List.all_eq_true.mpr h5, List.all_eq_true.mpr h6]; rfl
theorem web_none {ns ls ss : List D} (h : (∃ (i : Nat) (d : D), ns[i]? = some d ∧ isNodeD i d = false) ∨ ls.length = 0 ∨ 4 < ls.length ∨ ∃ x ∈ ls ++ ss, btw 0 (ns.length - 1) x = false) : isWebD (.tup [.tup ns, .tup ls, .tup ss]) = false := by
  show (decide (ns.length ≤ 400) && ((enumD ns).all nodeF && (decide (1 ≤ ls.length) && (decide (ls.length ≤ 4) && (decide (ss.length ≤ 400) && (ls ++ ss).all (btw 0 (ns.length - 1))))))) = false
  rcases h with ⟨i, d, h, hf⟩ | h | h | ⟨x, hx, hf⟩
  · have : (enumD ns).all nodeF = false := by
      rw [List.all_eq_false]
      exact ⟨_, enum_at h, by rw [show nodeF (.tup [.int i, d]) = isNodeD i d from rfl, hf]; decide⟩
    rw [this]; simp
  · rw [h]; simp
  · rw [decide_eq_false (show ¬ ls.length ≤ 4 by omega)]; simp
  · have : (ls ++ ss).all (btw 0 (ns.length - 1)) = false := by
      rw [List.all_eq_false]
      exact ⟨x, hx, by rw [hf]; decide⟩
    rw [this]; simp
theorem web_yes {ns ls ss : List D} (h1 : ns.length ≤ 400) (h2 : ∀ (i : Nat) (d : D), ns[i]? = some d → isNodeD i d = true) (h3 : 1 ≤ ls.length) (h4 : ls.length ≤ 4) (h5 : ss.length ≤ 400) (h6 : ∀ x ∈ ls, btw 0 (ns.length - 1) x = true) (h7 : ∀ x ∈ ss, btw 0 (ns.length - 1) x = true) : isWebD (.tup [.tup ns, .tup ls, .tup ss]) = true := by
  show (decide (ns.length ≤ 400) && ((enumD ns).all nodeF && (decide (1 ≤ ls.length) && (decide (ls.length ≤ 4) && (decide (ss.length ≤ 400) && (ls ++ ss).all (btw 0 (ns.length - 1))))))) = true
  have : (enumD ns).all nodeF = true := by
    rw [List.all_eq_true]
    intro x hx
    obtain ⟨⟨y, i⟩, hy, rfl⟩ := List.mem_map.mp hx
    exact h2 i y (by simpa using List.mem_zipIdx_iff_getElem?.mp hy)
  rw [decide_eq_true h1, this, decide_eq_true h3, decide_eq_true h4, decide_eq_true h5, List.all_append, List.all_eq_true.mpr h6, List.all_eq_true.mpr h7]; rfl
theorem btw_okD {lo hi : Int} {x : D} (h : btw lo hi x = true) : okD x = true := by cases x <;> first | rfl | cases h
section
variable {ns ls ss : List D} (W : WebG ns ls ss)
include W
theorem W_nodes : ∀ x ∈ ns, okNode x = true := fun x hx => by
  obtain ⟨i, hi⟩ := List.getElem?_of_mem hx
  exact (good_node (W.fn i x hi)).1
theorem W_ok : okWeb (.tup [.tup ns, .tup ls, .tup ss]) = true :=
  web_parts (by have := W.n2; omega) (W_nodes W) (by have := W.l2; omega) (by have := W.s2; omega) (fun x hx => btw_okD (W.fl x hx)) (fun x hx => btw_okD (W.fs x hx))
theorem W_web : isWebD (.tup [.tup ns, .tup ls, .tup ss]) = true :=
  web_yes (by have := W.n2; omega) (fun i d h => (good_node (W.fn i d h)).2) W.l1 W.l2 (by have := W.s2; omega) W.fl W.fs
/-- a bad node at a place -/
theorem W_bad {a : Nat} (ha : a < ns.length) {x : D} (h1 : okNode x = true) (h2 : isNodeD a x = false) : okWeb (.tup [.tup (cutD ns none (some a) ++ [x] ++ cutD ns (some (a + 1)) none), .tup ls, .tup ss]) = true ∧ isWebD (.tup [.tup (cutD ns none (some a) ++ [x] ++ cutD ns (some (a + 1)) none), .tup ls, .tup ss]) = false := by
  have e1 : cutD ns none (some (a : Int)) = ns.take a := by rw [cut_take _ (by omega), Int.toNat_natCast]
  have e2 : cutD ns (some ((a : Int) + 1)) none = ns.drop (a + 1) := by rw [cut_drop _ (by omega), show ((a : Int) + 1).toNat = a + 1 by omega]
  rw [e1, e2]
  have hn2 := W.n2
  refine ⟨web_parts (by simp; omega) (fun y hy => ?_) (by have := W.l2; omega) (by have := W.s2; omega) (fun x hx => btw_okD (W.fl x hx)) (fun x hx => btw_okD (W.fs x hx)), web_none (.inl ⟨a, x, ?_, h2⟩)⟩
  · rcases List.mem_append.mp hy with hy | hy
    · rcases List.mem_append.mp hy with hy | hy
      · exact W_nodes W y (List.mem_of_mem_take hy)
      · rw [List.mem_singleton.mp hy]; exact h1
    · exact W_nodes W y (List.mem_of_mem_drop hy)
  · rw [List.append_assoc, List.getElem?_append_right (by rw [List.length_take]; omega), List.length_take, Nat.min_eq_left (by omega), Nat.sub_self]; rfl
end
def bodyT : List S := match d_law.body with
  | _ :: .for _ _ _ b :: _ => b
  | _ => []
/-- a walk over bad webs -/
theorem bad_for {C : CallF} {v0 v1 v2 v3 v4 v5 v6 v7 v8 v9 v10 v11 v12 v13 v14 : IP.Slot} {s : Sto} (X : E) (hb : X.notBor = true) (w : D → D) (xs : List D)
    (h : ∀ x ∈ xs, evalE C X [v0, v1, v2, v3, v4, v5, v6, v7, v8, v9, v10, v11, .val x, v13, v14] s = .ok (pv (w x)) [v0, v1, v2, v3, v4, v5, v6, v7, v8, v9, v10, v11, .val x, v13, v14] s ∧ C 191 [w x] s = .ok (.bl false) false s) :
    ∃ y12 : IP.Slot, forGo (stp C tT.sub fuel (.name 12) [.ite (.prim (.isNB false) [.call 191 [X]]) [.ret (.con (.bl false))] []]) xs [v0, v1, v2, v3, v4, v5, v6, v7, v8, v9, v10, v11, v12, v13, v14] s = .ok .nx [v0, v1, v2, v3, v4, v5, v6, v7, v8, v9, v10, v11, y12, v13, v14] s := by
  obtain ⟨e', s', h1, rfl, y12, rfl⟩ := for_all (step := stp C tT.sub fuel (.name 12) [.ite (.prim (.isNB false) [.call 191 [X]]) [.ret (.con (.bl false))] []])
    (fun _ e s' => s' = s ∧ ∃ y12 : IP.Slot, e = [v0, v1, v2, v3, v4, v5, v6, v7, v8, v9, v10, v11, y12, v13, v14]) xs (fun i x e s2 hx ⟨q1, y12, q2⟩ => by
      subst q1 q2
      obtain ⟨r1, r2⟩ := h x (List.mem_of_getElem? hx)
      refine ⟨.nx, [v0, v1, v2, v3, v4, v5, v6, v7, v8, v9, v10, v11, .val x, v13, v14], s2, ?_, .inl rfl, rfl, _, rfl⟩
      have hX : evalOs C [X] [v0, v1, v2, v3, v4, v5, v6, v7, v8, v9, v10, v11, .val x, v13, v14] s2 = .ok [w x] [v0, v1, v2, v3, v4, v5, v6, v7, v8, v9, v10, v11, .val x, v13, v14] s2 := by
        rw [os_cons hb, r1]
        simp
      simp [hX, r2]) ⟨rfl, v12, rfl⟩ (e := [v0, v1, v2, v3, v4, v5, v6, v7, v8, v9, v10, v11, v12, v13, v14]) (s := s)
  exact ⟨y12, h1⟩
theorem ss_app {C : CallF} {sub : Nat → Nat → Option Bool} {N : Nat} (b : List S) : ∀ (a : List S) {env e : EnvI} {st s : Sto}, evalSs C sub N a env st = .ok .nx e s → evalSs C sub N (a ++ b) env st = evalSs C sub N b e s := by
  intro a
  induction a with
  | nil =>
    intro env e st s h
    have h : (Res.ok Fl.nx env st : Res Fl) = .ok .nx e s := h
    injection h with h1 h2 h3
    subst h2 h3
    rfl
  | cons x a ih =>
    intro env e st s h
    rw [List.cons_append]
    simp only [ss_cons] at h ⊢
    cases hx : evalS C sub N x env st with
    | ok f e1 s1 =>
      rw [hx, Res.bind_ok, kS_] at h
      rw [Res.bind_ok, kS_]
      cases f with
      | nx => exact ih h
      | _ => cases h
    | err x e1 s1 => rw [hx] at h; cases h
    | stuck => rw [hx] at h; cases h
/-- the odd nodes are built -/
theorem build {C : CallF} {v0 v1 v2 v3 v4 v5 v6 v8 v11 v12 v13 v14 : IP.Slot} {s : Sto} {a : Nat} {ps : List Int} {rs : List D} (h1 : ps.length ≤ 3) (h2 : rs.length ≤ 8) (ha : a ≤ 7) :
    evalSs C tT.sub fuel ((bodyT.drop 5).take 4) [v0, v1, v2, v3, v4, v5, v6, .val (.int a), v8, .val (.tup (ps.map D.int)), .val (.tup rs), v11, v12, v13, v14] s = .ok .nx [v0, v1, v2, v3, v4, v5, v6, .val (.int a), v8, .val (.tup (ps.map D.int)), .val (.tup rs), .own (oddL ps rs a), v12, v13, v14] s := by
  have l1 : ps.length + 1 ≤ 16777216 := by omega
  have l2 : rs.length ≤ 1000 := by omega
  have l3 : rs.length + 1 ≤ 16777216 := by omega
  have l4 : (IP.cutD rs (some 1) none).length ≤ 8 := by rw [cut_drop _ (by decide), List.length_drop]; omega
  have l5 : (IP.cutD rs (some 1) none).length + 1 ≤ 16777216 := by omega
  have l6 : 1 + (IP.cutD rs (some 1) none).length ≤ 16777216 := by omega
  have l7 : 1 + ps.length ≤ 16777216 := by omega
  cases ps with
  | nil => simp [bodyT, d_law, oddL, l1, l2, l3, l5, l6, l7]
  | cons p q =>
    obtain ⟨ini, l, hil⟩ : ∃ (ini : List Int) (l : Int), p :: q = ini ++ [l] := ⟨_, _, (List.dropLast_concat_getLast (List.cons_ne_nil p q)).symm⟩
    have hm : D.int p :: q.map D.int = ini.map D.int ++ [D.int l] := by
      have : (p :: q).map D.int = (ini ++ [l]).map D.int := by rw [hil]
      rw [List.map_append] at this
      exact this
    have hg : (p :: q).getLast (List.cons_ne_nil _ _) = l := by
      simp only [hil, List.getLast_concat]
    have c1 : IP.cutD (D.int p :: q.map D.int) (some (-1)) none = [.int l] := by rw [hm]; exact cut_last _ _
    have c2 : IP.cutD (D.int p :: q.map D.int) none (some (-1)) = ini.map D.int := by rw [hm]; exact cut_init _ _
    have c3 : IP.cutD (D.int p :: q.map D.int) none (some 1) = [.int p] := by rw [cut_take _ (by decide)]; rfl
    have c4 : atD (D.int p :: q.map D.int) (-1) = some (.int l) := by rw [hm]; exact at_last _ _
    have l8 : ini.length + 1 ≤ 16777216 := by rw [hil, List.length_append, List.length_singleton] at h1; omega
    have l9 : q.length + 1 + 1 ≤ 16777216 := by simp at h1; omega
    have l11 : 1 + (q.length + 1) ≤ 16777216 := by simp at h1; omega
    have l12 : q.length + 1 + 1 ≤ 16777216 := by simp at h1; omega
    have l13 : ini.length + 1 ≤ 16777216 := l8
    by_cases hl : l = 1
    · simp [bodyT, d_law, oddL, l1, l2, l3, l5, l6, l7, hg, hl, c1, c2, c3, c4, l8, l9, l11]
      done
    · simp [bodyT, d_law, oddL, l1, l2, l3, l5, l6, l7, hg, hl, c1, c2, c3, c4, l8, l9, l11]
      done
/-- the wrong webs -/
def bads1 (ns ls ss : List D) : List D := [.tup [.tup ns, .tup ls], .lst [.tup ns, .tup ls, .tup ss], .tup [.tup ns, .tup [], .tup ss], .tup [.tup ns, .tup (List.replicate (Int.toNat 5) ls).flatten, .tup ss], .tup [.tup ns, .tup (ls ++ [.int ns.length]), .tup ss], .tup [.tup ns, .tup ls, .tup (ss ++ [.int ns.length])]]
def bads2 (ns ls ss : List D) : List D := [.tup [.tup ns, .lst ls, .tup ss], .tup [.tup ns, .tup ls, .lst ss], .tup [.tup ns, .tup (IP.cutD ls (some 1) none ++ [.bl true]), .tup ss], .tup [.tup ns, .tup ls, .tup (ss ++ [.int (-1)])], .tup [.tup ns, .tup ls, .tup [.non]]]
section
variable {ns ls ss : List D} (W : WebG ns ls ss)
include W
theorem W_b (ls2 ss2 : List D) (h1 : ls2.length ≤ 1000) (h2 : ss2.length ≤ 1000) (h3 : ∀ x ∈ ls2, okD x = true) (h4 : ∀ x ∈ ss2, okD x = true) (h : ls2.length = 0 ∨ 4 < ls2.length ∨ ∃ x ∈ ls2 ++ ss2, btw 0 (ns.length - 1) x = false) :
    okWeb (.tup [.tup ns, .tup ls2, .tup ss2]) = true ∧ isWebD (.tup [.tup ns, .tup ls2, .tup ss2]) = false :=
  ⟨web_parts (by have := W.n2; omega) (W_nodes W) h1 h2 h3 h4, web_none (.inr h)⟩
theorem out_many : btw 0 ((ns.length : Int) - 1) (.int ns.length) = false := by
  show (decide (0 ≤ (ns.length : Int)) && decide ((ns.length : Int) ≤ ns.length - 1)) = false
  rw [decide_eq_false (show ¬ (ns.length : Int) ≤ ns.length - 1 by omega), Bool.and_false]
theorem bads_ok : ∀ x ∈ bads1 ns ls ss ++ bads2 ns ls ss, okWeb x = true ∧ isWebD x = false := by
  have hl : ∀ x ∈ ls, okD x = true := fun x hx => btw_okD (W.fl x hx)
  have hs : ∀ x ∈ ss, okD x = true := fun x hx => btw_okD (W.fs x hx)
  have h1 := W.l1
  have h2 := W.l2
  have h3 := W.s2
  have hap : ∀ (xs : List D) (y : D), (∀ x ∈ xs, okD x = true) → okD y = true → ∀ x ∈ xs ++ [y], okD x = true := fun xs y q1 q2 x hx => by
    rcases List.mem_append.mp hx with hx | hx
    · exact q1 x hx
    · rw [List.mem_singleton.mp hx]; exact q2
  have h5 : ((List.replicate (Int.toNat 5) ls).flatten).length = 5 * ls.length := by
    show ((List.replicate 5 ls).flatten).length = _
    simp [List.replicate]; omega
  have hc : IP.cutD ls (some 1) none = ls.drop 1 := cut_drop _ (by decide)
  intro x hx
  unfold bads1 bads2 at hx
  simp only [List.mem_append, List.mem_cons, List.not_mem_nil, or_false] at hx
  rcases hx with (hx | hx | hx | hx | hx | hx) | (hx | hx | hx | hx | hx) <;> subst hx
  · exact ⟨rfl, rfl⟩
  · exact ⟨rfl, rfl⟩
  · exact W_b W [] ss (by simp) (by omega) (fun x hx => by simp at hx) hs (.inl rfl)
  · exact W_b W _ ss (by omega) (by omega) (fun x hx => by
      obtain ⟨l, q1, q2⟩ := List.mem_flatten.mp hx
      rw [(List.mem_replicate.mp q1).2] at q2
      exact hl x q2) hs (.inr (.inl (by omega)))
  · exact W_b W _ ss (by simp; omega) (by omega) (hap _ _ hl rfl) hs (.inr (.inr ⟨.int ns.length, by simp, out_many W⟩))
  · exact W_b W ls _ (by omega) (by simp; omega) hl (hap _ _ hs rfl) (.inr (.inr ⟨.int ns.length, by simp, out_many W⟩))
  · exact ⟨rfl, rfl⟩
  · exact ⟨rfl, rfl⟩
  · rw [hc]
    exact W_b W _ ss (by simp; omega) (by omega) (hap _ _ (fun x hx => hl x (List.mem_of_mem_drop hx)) rfl) hs (.inr (.inr ⟨.bl true, by simp, rfl⟩))
  · exact W_b W ls _ (by omega) (by simp; omega) hl (hap _ _ hs rfl) (.inr (.inr ⟨.int (-1), by simp, rfl⟩))
  · exact W_b W ls [.non] (by omega) (by decide) hl (fun x hx => by rw [List.mem_singleton.mp hx]; rfl) (.inr (.inr ⟨.non, by simp, rfl⟩))
end
/-- a turn -/
theorem turn {k : Nat} (hk : 6 ≤ k) (scr : D) (i : Int) (x2 x3 x4 x5 x6 x7 x8 x9 x10 x11 x12 : IP.Slot) {b : Nat} {h : List D} (H : Hand b h) (hb : b ≤ 10 ^ 10) :
    ∃ (y2 y3 y4 y5 y6 y8 y9 y10 y11 y12 : IP.Slot) (a : Int) (h' : List D), stp (callN tT fuel k) tT.sub fuel (.name 2) bodyT (.int i) [.val scr, .val (.ref 0), x2, x3, x4, x5, x6, x7, x8, x9, x10, x11, x12, .none, .none] [.lst h] = .ok .nx [.val scr, .val (.ref 0), y2, y3, y4, y5, y6, .val (.int a), y8, y9, y10, y11, y12, .none, .none] [.lst h'] ∧ Hand (b + 401) h' := by
  obtain ⟨ns, ls, ss, h1, e1, W, H1⟩ := draw_web_ok (N := fuel) (T := tT) tD rfl rfl (k := k) (st := [.lst h]) (j := 0) (by omega) (by decide) rfl H (by omega)
  have e1 : callN tT fuel k 213 [.ref 0] [.lst h] = .ok (.tup [.tup ns, .tup ls, .tup ss]) false [.lst h1] := e1
  have w1 := webD (k := k) (by omega) _ (W_ok W) (W_web W) [.lst h1]
  have hn1 := W.n1
  have hn2 := W.n2
  obtain ⟨a, h2, e2, a1, a2, H2⟩ := draw_ok (N := fuel) (T := tT) (k := k) (st := [.lst h1]) (j := 0) rfl (by omega) rfl H1 (by omega) (m := (ns.length : Int)) (by omega) (divOk_small (by omega) (by omega))
  have e2 : callN tT fuel k 6 [.ref 0, .int (ns.length : Int)] [.lst h1] = .ok (.int a) false [.lst h2] := e2
  obtain ⟨a, rfl⟩ : ∃ n : Nat, a = n := ⟨a.toNat, by omega⟩
  have ha : a < ns.length := by omega
  obtain ⟨ps, rs, hd, p1, p2, p3, p4, p5⟩ := (W.fn a ns[a] (List.getElem?_eq_getElem ha)).ex
  have at1 : atD ns a = some (.tup [.tup (ps.map D.int), .tup rs]) := by rw [atD_nat, List.getElem?_eq_getElem ha, hd]
  have hrs : rs.length ≤ 8 := by rw [p4]; exact pow2_le p1
  -- the bad nodes
  have hodd := odd_bad (a := a) p1 p4 p5
  have hb1 := build (C := callN tT fuel k) (v0 := .val scr) (v1 := .val (.ref 0)) (v2 := .val (.int i)) (v3 := .val (.tup [.tup ns, .tup ls, .tup ss])) (v4 := .val (.tup ns)) (v5 := .val (.tup ls)) (v6 := .val (.tup ss)) (v8 := .val (.int ns.length)) (v11 := x11) (v12 := x12) (v13 := .none) (v14 := .none) (s := [.lst h2]) (a := a) (ps := ps) (rs := rs) p1 hrs (by omega)
  generalize oddL ps rs a = L at hodd hb1
  have c1 := cut_len ns none (some (a : Int))
  have c2 := cut_len ns (some ((a : Int) + 1)) none
  obtain ⟨y12, f1⟩ := bad_for (C := callN tT fuel k) (v0 := .val scr) (v1 := .val (.ref 0)) (v2 := .val (.int i)) (v3 := .val (.tup [.tup ns, .tup ls, .tup ss])) (v4 := .val (.tup ns)) (v5 := .val (.tup ls)) (v6 := .val (.tup ss)) (v7 := .val (.int a)) (v8 := .val (.int ns.length)) (v9 := .val (.tup (ps.map D.int))) (v10 := .val (.tup rs)) (v11 := .val (.lst L)) (v12 := x12) (v13 := .none) (v14 := .none) (s := [.lst h2]) (.tup [.prim (.add) [.prim (.add) [.prim (.slc false true) [.bor 4, .bor 7], .tup [.var 12]], .prim (.slc true false) [.bor 4, .prim (.add) [.bor 7, .con (.int 1)]]], .var 5, .var 6]) rfl
    (fun x => .tup [.tup (IP.cutD ns none (some a) ++ [x] ++ IP.cutD ns (some (a + 1)) none), .tup ls, .tup ss]) L (fun x hx => by
      obtain ⟨q1, q2⟩ := hodd x hx
      obtain ⟨q3, q4⟩ := W_bad W ha q1 q2
      refine ⟨?_, webD (by omega) _ q3 q4 _⟩
      have l1 : (IP.cutD ns none (some (a : Int))).length + 1 ≤ 16777216 := by omega
      have l2 : (IP.cutD ns none (some (a : Int))).length + 1 + (IP.cutD ns (some ((a : Int) + 1)) none).length ≤ 16777216 := by omega
      simp [l1, l2])
  obtain ⟨z12, f2⟩ := bad_for (C := callN tT fuel k) (v0 := .val scr) (v1 := .val (.ref 0)) (v2 := .val (.int i)) (v3 := .val (.tup [.tup ns, .tup ls, .tup ss])) (v4 := .val (.tup ns)) (v5 := .val (.tup ls)) (v6 := .val (.tup ss)) (v7 := .val (.int a)) (v8 := .val (.int ns.length)) (v9 := .val (.tup (ps.map D.int))) (v10 := .val (.tup rs)) (v11 := .val (.lst L)) (v12 := y12) (v13 := .none) (v14 := .none) (s := [.lst h2]) (.var 12) rfl id (bads1 ns ls ss) (fun x hx => by
      obtain ⟨q1, q2⟩ := bads_ok W x (List.mem_append_left _ hx)
      exact ⟨by simp, webD (by omega) _ q1 q2 _⟩)
  obtain ⟨u12, f3⟩ := bad_for (C := callN tT fuel k) (v0 := .val scr) (v1 := .val (.ref 0)) (v2 := .val (.int i)) (v3 := .val (.tup [.tup ns, .tup ls, .tup ss])) (v4 := .val (.tup ns)) (v5 := .val (.tup ls)) (v6 := .val (.tup ss)) (v7 := .val (.int a)) (v8 := .val (.int ns.length)) (v9 := .val (.tup (ps.map D.int))) (v10 := .val (.tup rs)) (v11 := .val (.lst L)) (v12 := z12) (v13 := .none) (v14 := .none) (s := [.lst h2]) (.var 12) rfl id (bads2 ns ls ss) (fun x hx => by
      obtain ⟨q1, q2⟩ := bads_ok W x (List.mem_append_right _ hx)
      exact ⟨by simp, webD (by omega) _ q1 q2 _⟩)
  refine ⟨.val (.int i), .val (.tup [.tup ns, .tup ls, .tup ss]), .val (.tup ns), .val (.tup ls), .val (.tup ss), .val (.int ns.length), .val (.tup (ps.map D.int)), .val (.tup rs), .val (.lst L), u12, a, h2, ?_, H2⟩
  have g0 : evalSs (callN tT fuel k) tT.sub fuel (bodyT.take 5) [.val scr, .val (.ref 0), .val (.int i), x3, x4, x5, x6, x7, x8, x9, x10, x11, x12, .none, .none] [.lst h] = .ok .nx [.val scr, .val (.ref 0), .val (.int i), .val (.tup [.tup ns, .tup ls, .tup ss]), .val (.tup ns), .val (.tup ls), .val (.tup ss), .val (.int a), .val (.int ns.length), .val (.tup (ps.map D.int)), .val (.tup rs), x11, x12, .none, .none] [.lst h2] := by
    simp [bodyT, d_law, e1, w1, e2, at1]
  have sp : bodyT = bodyT.take 5 ++ ((bodyT.drop 5).take 4 ++ bodyT.drop 9) := rfl
  have l5 : ls.length ≤ 1000 := by have := W.l2; omega
  have l6 : ls.length + 1 ≤ 16777216 := by omega
  have l7 : ss.length + 1 ≤ 16777216 := by have := W.s2; omega
  have l8 : (IP.cutD ls (some 1) none).length + 1 ≤ 16777216 := by have := cut_len ls (some 1) none; omega
  rw [sp]
  simp only [stp_, kBody_]
  simp
  rw [ss_app _ _ g0, ss_app _ _ hb1]
  simp [bads1] at f2
  simp [bads2] at f3
  simp [bodyT, d_law, l5, l6, l7, l8, f1, f2, f3]
def nd : D := .tup [.tup [], .tup [.tup [.int 1, .int 2]]]
def wide (n m : Int) : D := .tup [.tup (rangeD n), .tup (List.replicate m.toNat (.tup [.int 1, .int 3]))]
theorem rep_mem {n : Nat} {x : D} (h : x ∈ List.replicate n nd) : x = nd := (List.mem_replicate.mp h).2
theorem rep_len (n : Nat) : (List.replicate n nd).length = n := List.length_replicate
theorem rep_ok {n : Nat} (h0 : 1 ≤ n) (h : n ≤ 1000) : okWeb (.tup [.tup (List.replicate n nd), .tup [.int 0], .tup []]) = true :=
  web_parts (by rw [rep_len]; exact h) (fun x hx => by rw [rep_mem hx]; decide +kernel) (by decide) (by decide) (fun x hx => by rw [List.mem_singleton.mp hx]; rfl) (fun x hx => by cases hx)
theorem nd_ok (i : Int) : isNodeD i nd = true := by
  show (true && (true && (true && (true && [D.tup [.int 1, .int 2]].all isChD)))) = true
  decide +kernel
theorem rep_400 : isWebD (.tup [.tup (List.replicate 400 nd), .tup [.int 0], .tup []]) = true :=
  web_yes (by rw [rep_len]; decide) (fun i d h => by rw [rep_mem (List.mem_of_getElem? h)]; exact nd_ok i) (by decide) (by decide) (by decide) (fun x hx => by rw [List.mem_singleton.mp hx, rep_len]; decide) (fun x hx => by cases hx)
theorem rep_401 : isWebD (.tup [.tup (List.replicate 401 nd), .tup [.int 0], .tup []]) = false := by
  generalize hx : (List.replicate 401 nd) = xs
  have hl : xs.length = 401 := by rw [← hx, rep_len]
  show (decide (xs.length ≤ 400) && ((enumD xs).all nodeF && (decide (1 ≤ [D.int 0].length) && (decide ([D.int 0].length ≤ 4) && (decide (([] : List D).length ≤ 400) && ([D.int 0] ++ []).all (btw 0 (xs.length - 1))))))) = false
  rw [hl]
  rfl
def sl7 : Option Int → IP.Slot
  | some a => .val (.int a)
  | none => .none
theorem plain (ns : List Int) (hl : ns.length ≤ 63) : ∃ fr st', callN tT fuel depth f_law.ix [.scr ns] [] = .ok (.bl true) fr st' := by
  have hk : depth = 99 + 1 := rfl
  obtain ⟨h, e1, H⟩ := hand_ok (T := tT) (N := fuel) rfl (k := 99) (by omega) ns hl
  obtain ⟨e', s', e2, y2, y3, y4, y5, y6, a, y8, y9, y10, y11, y12, h', rfl, rfl, H'⟩ := for_all (step := stp (callN tT fuel 99) tT.sub fuel (.name 2) bodyT)
    (fun i e s => ∃ (x2 x3 x4 x5 x6 : IP.Slot) (a : Option Int) (x8 x9 x10 x11 x12 : IP.Slot) (h : List D), e = [.val (.scr ns), .val (.ref 0), x2, x3, x4, x5, x6, sl7 a, x8, x9, x10, x11, x12, .none, .none] ∧ s = [.lst h] ∧ Hand (401 * i) h) ((List.range 10).map fun n : Nat => D.int (n : Int)) (fun i x e s hx ⟨x2, x3, x4, x5, x6, a, x8, x9, x10, x11, x12, h, e1, e2, H⟩ => by
      subst e1 e2
      have hi : i < 10 := by
        have := (List.getElem?_eq_some_iff.mp hx).1
        rwa [List.length_map, List.length_range] at this
      have hxe : x = .int i := by
        rw [List.getElem?_map, List.getElem?_range hi] at hx
        cases hx; rfl
      subst hxe
      obtain ⟨y2, y3, y4, y5, y6, y8, y9, y10, y11, y12, a', h', q1, q2⟩ := turn (k := 99) (by omega) (.scr ns) i x2 x3 x4 x5 x6 (sl7 a) x8 x9 x10 x11 x12 H (by omega)
      exact ⟨.nx, _, _, q1, .inl rfl, y2, y3, y4, y5, y6, some a', y8, y9, y10, y11, y12, h', rfl, rfl, q2.mono (by omega)⟩)
    (e := [.val (.scr ns), .val (.ref 0), .none, .none, .none, .none, .none, .none, .none, .none, .none, .none, .none, .none, .none]) (s := [.lst h]) ⟨_, _, _, _, _, none, _, _, _, _, _, h, rfl, rfl, H⟩
  generalize hx7 : sl7 a = x7 at e2
  have n7 : noOwn [.val (.scr ns), .val (.ref 0), y2, y3, y4, y5, y6, x7, y8, y9, y10, y11, y12, .none, .none] [7] = true := by
    subst hx7
    cases a <;> rfl
  have r := it_ri 10 (by decide) (by decide)
  have r7 := it_ri 7 (by decide) (by decide)
  have key := lc_map (C := callN tT fuel 99) (own := [7]) (t := .name 7) (y := .tup [.tup [], .tup [.tup [.con (.int 1), .con (.int 2)]]]) (e := [.val (.scr ns), .val (.ref 0), y2, y3, y4, y5, y6, x7, y8, y9, y10, y11, y12, .none, .none]) (s := [.lst h']) (fun _ => nd) n7 ((List.range 7).map fun n : Nat => D.int (n : Int)) (by decide) (fun x hx => by
    refine ⟨[.val (.scr ns), .val (.ref 0), y2, y3, y4, y5, y6, .val x, y8, y9, y10, y11, y12, .none, .none], ?_, rfl⟩
    simp [wipeI, nd])
  have k13 : ((List.range 7).map fun n : Nat => D.int (n : Int)).map (fun _ => nd) = [nd, nd, nd, nd, nd, nd, nd] := rfl
  rw [k13] at key
  have g1 := webD (k := 99) (by decide) (.tup [.tup ([nd, nd, nd, nd, nd, nd, nd] ++ [wide 6 64]), .tup [.int 7], .tup []]) (by decide +kernel) (b := true) (by decide +kernel) [.lst h']
  have g2 := webD (k := 99) (by decide) (.tup [.tup ([nd, nd, nd, nd, nd, nd, nd] ++ [wide 7 128]), .tup [.int 7], .tup []]) (by decide +kernel) (b := false) (by decide +kernel) [.lst h']
  have g3 := webD (k := 99) (by decide) _ (rep_ok (n := 400) (by decide) (by decide)) rep_400 [.lst h']
  have g4 := webD (k := 99) (by decide) _ (rep_ok (n := 401) (by decide) (by decide)) rep_401 [.lst h']
  have g5 := webD (k := 99) (by decide) (.tup [.tup [], .tup [.int 0], .tup []]) (by decide +kernel) (b := false) (by decide +kernel) [.lst h']
  have c1 : IP.cutD [nd, nd, nd, nd, nd, nd, nd] none (some 1) = [nd] := rfl
  have t4 : (400 : Int).toNat = 400 := rfl
  have t41 : (401 : Int).toNat = 401 := rfl
  have lf : evalSs (callN tT fuel 99) tT.sub fuel (d_law.body.take 2) [.val (.scr ns), .none, .none, .none, .none, .none, .none, .none, .none, .none, .none, .none, .none, .none, .none] [] = .ok .nx [.val (.scr ns), .val (.ref 0), y2, y3, y4, y5, y6, x7, y8, y9, y10, y11, y12, .none, .none] [.lst h'] := by
    have sp : d_law.body.take 2 = [d_law.body.getD 0 .pass, .for (.name 2) .rng1 [.con (.int 10)] bodyT] := rfl
    rw [sp]
    simp [d_law, e1, r]
    rw [e2]
    simp
  refine ⟨false, [.lst h'], ?_⟩
  rw [hk, show f_law.ix = 216 from rfl, call_eq (d := d_law) rfl (by decide) _ rfl]
  simp only [Nat.add_sub_cancel]
  have sp : d_law.body = d_law.body.take 2 ++ d_law.body.drop 2 := rfl
  rw [sp, show startI d_law [.scr ns] = [.val (.scr ns), .none, .none, .none, .none, .none, .none, .none, .none, .none, .none, .none, .none, .none, .none] from rfl, ss_app _ _ lf]
  have w6 : D.tup [.tup (rangeD 6), .tup (List.replicate 64 (D.tup [.int 1, .int 3]))] = wide 6 64 := rfl
  have w7 : D.tup [.tup (rangeD 7), .tup (List.replicate 128 (D.tup [.int 1, .int 3]))] = wide 7 128 := rfl
  simp only [List.cons_append, List.nil_append] at g1 g2
  simp [-List.reduceReplicate, d_law, r7, key, w6, w7, g1, g2, g3, g4, g5, c1, t4, t41]
  done
/-! ### the top -/
abbrev R : PySem.W.OpenRow := PySem.W.OpenLaw.row PySem.Challenge.rw_whatifdrawn_k24_webs_judged
abbrev hk : PySem.W.Hook := He.hookX 5 (faOf gG lL sbL) (lL.map FnD.dd) (tbOf gG) [] (consB gG)
def ob (s : PySem.W.SharedT) : He.AlX := He.obsX 5 (faOf gG lL sbL) (lL.map FnD.dd) (tbOf gG) [] (consB gG) (HandSHeadRun.getT s)
theorem ob_eq (s : PySem.W.SharedT) : ob s = hk.obs s.abs := He.obsX_eq (HandSHeadRun.getT_eq s)
def lo0 : List PySem.Str := ["MOST_PART", "is_integer", "is_between", "common", "is_fraction", "is_chance", "MOST_LETTERS", "MOST_NODES", "MOST_PARENTS", "is_node", "is_web", "_law_hand", "_law_draw", "_law_some", "_law_mixed", "_law_common", "_law_part", "_law_share", "_law_draw_web"]
def lo : List PySem.Str := lo0
theorem run (w : World) : HandSHeadRun.RunEq R (PySem.W.view R.prog [22]) hk ob 1580 lo w := by
  intro os
  kernel_rfl
end K24
open PySem PySem.W PySem.Calls PyProof.Rows
theorem PySem.Challenge.cw_whatifdrawn_k24_webs_judged_holds : PySem.Challenge.rw_whatifdrawn_k24_webs_judged.Holds := by
  w_on; o_law
  refine HandSHeadRun.head_any (r := OpenLaw.row PySem.Challenge.rw_whatifdrawn_k24_webs_judged) (q := view (OpenLaw.row PySem.Challenge.rw_whatifdrawn_k24_webs_judged).prog [22]) (H := K24.hk) (ob := K24.ob) (M := 1580) (loose := K24.lo) (d := HandSHeadRun.topDef (OpenLaw.row PySem.Challenge.rw_whatifdrawn_k24_webs_judged).prog 22) (kwd := []) K24.ob_eq
    (by kernel_rfl) (fun s => by kernel_rfl) K24.run (by kernel_rfl) (by kernel_rfl) (by kernel_rfl) (by rfl) (by first | assumption | decide +kernel) (by decide +kernel) ⟨rfl, rfl, rfl, rfl, rfl, by decide +kernel⟩ ?hw ?hc
  case hw => w_witness2
  case hc =>
    exact IP.law_end (l := PySem.Challenge.rw_whatifdrawn_k24_webs_judged) (n := 63) (k := K24.depth) (N := K24.fuel) (F := K24.f_law) K24.stat (List.mem_of_getElem? (i := 15) rfl) rfl (by kernel_rfl) rfl rfl rfl (by decide) (by kernel_rfl) ⟨rfl, by decide, by decide⟩ K24.plain
