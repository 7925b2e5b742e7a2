import PyProof.Rows.All
import HandS.ForMost
import HandS.HeadHook1
import HandS.HeadHook2
import HandS.HeadHook4
import HandS.HeadWalk
import PyProof.ExcBaseAll.ValueError
import KE.KExcSuper
import HandS.Head0
import HandS.Head1
import HandS.Head2
import HandS.HeadEnd
import HandS.Exc
import HandS.ExcOwn
import HandS.ExcValue
import HandS.Lambda
import HandS.TryOnly
import HandS.WordsExc
import KE.DataEq
import HandS.TupAny
import HandS.SortInts
import HandS.IsInst
import HandS.Zip
import HandS.Wide
import HandS.Conv
import HandS.Iter
import HandS.Dict
import KE.KTupSum
import HandS.Text
import HandS.Star
import HandS.Style
import HandS.Defaults
import HandS.ExcIs
import HandS.ExcField
import HandS.Comp
import HandS.ExcInit
import PySem.Challenge.RW_bestatall_k71_whole_texts_of_profiles
/-! BaSem -/
set_option linter.all false
set_option maxRecDepth 100000
/-! BaSem: a small value semantics. Values are trees; a def's slots hold trees; expressions change nothing but the draw. -/
namespace BA
open PySem L2

/-! ### values -/
inductive PV where
  | non | bl (b : Bool) | int (i : Int) | str (x : Str) | tup (xs : List PV) | lst (xs : List PV)
  | dct (kvs : List (PV × PV)) | obj (c : Nat) (fs : List PV) | exn (c : Nat) (fs : List PV) | drw
deriving Inhabited
/-- what a slot holds: nothing, a value that is shared, a list (dict, instance) of one's own -/
inductive SV where
  | non | val (v : PV) | own (v : PV)
deriving Inhabited
abbrev Env := List SV
/-- the law's draw record -/
structure Dr where
  large : List Int
  rest : Int
  cells : List Int
  turn : Int

/-! ### answers -/
inductive Out (α : Type) where
  | ok (a : α) | exn (c : Nat) (fs : List PV)
def M (α : Type) : Type := Dr → Option (Out α × Dr)
namespace M
def ret {α : Type} (a : α) : M α := fun d => some (.ok a, d)
def bnd {α β : Type} (m : M α) (f : α → M β) : M β := fun d => match m d with
  | none => none
  | some (.ok a, d') => f a d'
  | some (.exn c fs, d') => some (.exn c fs, d')
def stuck {α : Type} : M α := fun _ => none
def raise {α : Type} (c : Nat) (fs : List PV) : M α := fun d => some (.exn c fs, d)
def lift {α : Type} : Option α → M α
  | some a => ret a
  | none => stuck
end M
instance : Monad M where
  pure := M.ret
  bind := M.bnd
/-- no error leaves -/
def M.noex {α : Type} (m : M α) : M α := fun d => match m d with
  | some (.ok a, d') => some (.ok a, d')
  | _ => none
namespace M
variable {α β γ : Type}
@[simp] theorem noex_pure (a : α) : M.noex (pure a) = (pure a : M α) := rfl
@[simp] theorem noex_stuck : M.noex (stuck : M α) = stuck := rfl
theorem pure_eq (a : α) (d : Dr) : (pure a : M α) d = some (.ok a, d) := rfl
theorem bind_eq (m : M α) (f : α → M β) (d : Dr) : (m >>= f) d = match m d with
  | none => none
  | some (.ok a, d') => f a d'
  | some (.exn c fs, d') => some (.exn c fs, d') := rfl
@[simp] theorem pure_bind (a : α) (f : α → M β) : (pure a >>= f) = f a := rfl
@[simp] theorem stuck_bind (f : α → M β) : ((stuck : M α) >>= f) = stuck := rfl
@[simp] theorem raise_bind (c : Nat) (fs : List PV) (f : α → M β) : ((raise c fs : M α) >>= f) = raise c fs := rfl
@[simp] theorem lift_some (a : α) : lift (some a) = (pure a : M α) := rfl
@[simp] theorem lift_none : lift (none : Option α) = (stuck : M α) := rfl
@[simp] theorem bind_assoc (m : M α) (f : α → M β) (g : β → M γ) : ((m >>= f) >>= g) = (m >>= fun a => f a >>= g) := by
  funext d
  show M.bnd (M.bnd m f) g d = M.bnd m (fun a => M.bnd (f a) g) d
  unfold M.bnd
  cases m d with
  | none => rfl
  | some p =>
    obtain ⟨o, d'⟩ := p
    cases o <;> rfl
@[simp] theorem bind_pure (m : M α) : (m >>= fun a => pure a) = m := by
  funext d
  show M.bnd m (fun a => M.ret a) d = m d
  unfold M.bnd M.ret
  cases m d with
  | none => rfl
  | some p =>
    obtain ⟨o, d'⟩ := p
    cases o <;> rfl
theorem bind_ok {m : M α} {f : α → M β} {d : Dr} {r : Out β × Dr} (h : (m >>= f) d = some r) : ∃ o d', m d = some (o, d') ∧ (match o with
    | .ok a => f a d' = some r
    | .exn c fs => r = (.exn c fs, d')) := by
  rw [bind_eq] at h
  cases e : m d with
  | none => rw [e] at h; cases h
  | some p =>
    obtain ⟨o, d'⟩ := p
    rw [e] at h
    cases o with
    | ok a => exact ⟨_, _, rfl, h⟩
    | exn c fs => exact ⟨_, _, rfl, (Option.some.inj h).symm⟩
end M

/-! ### data -/
mutual
def PV.toD : PV → Option PyData
  | .non => some .none
  | .bl b => some (.bool b)
  | .int i => some (.int i)
  | .str x => some (.str x)
  | .tup xs => (PV.toDs xs).map .tuple
  | .lst xs => (PV.toDs xs).map .list
  | .dct _ => none
  | .obj _ _ => none
  | .exn _ _ => none
  | .drw => none
def PV.toDs : List PV → Option (List PyData)
  | [] => some []
  | x :: xs => match PV.toD x, PV.toDs xs with
    | some d, some ds => some (d :: ds)
    | _, _ => none
end

/-! ### classes that are asked for -/
inductive CT where
  | int | bool | str | list | tuple | dict | own (c : Nat)
deriving DecidableEq
/-- the tables of a program: its constants by name, its classes -/
structure Tab where
  consts : List (Str × PV)
  /-- subclass or the same -/
  sub : List (Nat × Nat)
  /-- the fields of a class, by number -/
  flds : List (List Nat)
  /-- is it a class of exceptions? -/
  exc : List Bool
/-- isinstance of one class -/
def isOne (T : Tab) (v : PV) (ct : CT) : Option Bool := match v, ct with
  | .drw, _ => none
  | .non, .own c' => if c' < T.flds.length then some false else none
  | .bl _, .own c' => if c' < T.flds.length then some false else none
  | .int _, .own c' => if c' < T.flds.length then some false else none
  | .str _, .own c' => if c' < T.flds.length then some false else none
  | .tup _, .own c' => if c' < T.flds.length then some false else none
  | .lst _, .own c' => if c' < T.flds.length then some false else none
  | .dct _, .own c' => if c' < T.flds.length then some false else none
  | .obj c _, .own c' => if T.exc[c]? = some false ∧ c' < T.flds.length then some (decide ((c, c') ∈ T.sub)) else none
  | .exn c _, .own c' => if T.exc[c]? = some true ∧ c' < T.flds.length then some (decide ((c, c') ∈ T.sub)) else none
  | .obj c _, _ => if T.exc[c]? = some false then some false else none
  | .exn c _, _ => if T.exc[c]? = some true then some false else none
  | .non, _ => some false
  | .bl _, .int => some true
  | .bl _, .bool => some true
  | .bl _, _ => some false
  | .int _, .int => some true
  | .int _, _ => some false
  | .str _, .str => some true
  | .str _, _ => some false
  | .tup _, .tuple => some true
  | .tup _, _ => some false
  | .lst _, .list => some true
  | .lst _, _ => some false
  | .dct _, .dict => some true
  | .dct _, _ => some false
def isAny (T : Tab) (v : PV) : List CT → Option Bool
  | [] => some false
  | c :: cs => match isOne T v c with
    | some true => some true
    | some false => isAny T v cs
    | none => none

/-! ### operators -/
inductive BOp where
  | add | sub | mul | fdiv | mod | pow
deriving DecidableEq
inductive COp where
  | lt | le | gt | ge | eq | ne | is | isnot | inn | nin
deriving DecidableEq
def binV : BOp → PV → PV → Option PV
  | .add, .int a, .int b => some (.int (a + b))
  | .add, .str a, .str b => if a.length + b.length ≤ sizeLine then some (.str (a ++ b)) else none
  | .add, .lst a, .lst b => if a.length + b.length ≤ sizeLine then some (.lst (a ++ b)) else none
  | .add, .tup a, .tup b => if a.length + b.length ≤ sizeLine then some (.tup (a ++ b)) else none
  | .sub, .int a, .int b => some (.int (a - b))
  | .mul, .int a, .int b => if a.natAbs.log2 + b.natAbs.log2 < 1000000 then some (.int (a * b)) else none
  | .fdiv, .int a, .int b => if b ≠ 0 ∧ b.natAbs.log2 < 9000 then some (.int (a.fdiv b)) else none
  | .mod, .int a, .int b => if b ≠ 0 then some (.int (a.fmod b)) else none
  | .pow, .int a, .int b => if 0 ≤ b ∧ b ≤ 1000000 ∧ a.natAbs < 2 ^ 64 then some (.int (a ^ b.toNat)) else none
  | _, _, _ => none
/-- == of data -/
def eqV (a b : PV) : Option Bool := match a, b with
  | .int i, .int j => some (decide (i = j))
  | .str x, .str y => some (decide (x = y))
  | .bl x, .bl y => some (decide (x = y))
  | .non, .non => some true
  | a, b => match a.toD, b.toD with
    | some d, some e => if min d.depth e.depth ≤ 64 then some (PyData.eqv d e) else none
    | _, _ => none
def inV (x : PV) : PV → Option Bool
  | .lst ys => match x.toD, PV.toDs ys with
    | some d, some es => if min (PyData.depthAll es) d.depth ≤ 64 then some (es.any fun e => PyData.eqv e d) else none
    | _, _ => none
  | .tup ys => match x.toD, PV.toDs ys with
    | some d, some es => if min (PyData.depthAll es) d.depth ≤ 64 then some (es.any fun e => PyData.eqv e d) else none
    | _, _ => none
  | .str y => match x with
    | .str z => match z.cps.toList with
      | [c] => some (decide (c ∈ y.cps.toList))
      | _ => none
    | _ => none
  | .dct kvs => match x with
    | .int i => some (kvs.any fun kv => match kv.1 with | .int j => decide (i = j) | _ => false)
    | .str i => some (kvs.any fun kv => match kv.1 with | .str j => decide (i = j) | _ => false)
    | _ => none
  | _ => none
def isNonV : PV → Bool
  | .non => true
  | _ => false
def cmpV : COp → PV → PV → Option Bool
  | .lt, .int a, .int b => some (decide (a < b))
  | .le, .int a, .int b => some (decide (a ≤ b))
  | .gt, .int a, .int b => some (decide (b < a))
  | .ge, .int a, .int b => some (decide (b ≤ a))
  | .eq, a, b => eqV a b
  | .ne, a, b => (eqV a b).map not
  | .is, a, .non => some (isNonV a)
  | .isnot, a, .non => some (!isNonV a)
  | .inn, a, b => inV a b
  | .nin, a, b => (inV a b).map not
  | _, _, _ => none
/-- the items of xs[lo:hi] -/
def cut {α : Type} (xs : List α) (lo hi : Option Int) : List α := (xs.drop (HT.sIx xs.length 0 lo)).take (HT.sIx xs.length xs.length hi - HT.sIx xs.length 0 lo)
def dictGet (kvs : List (PV × PV)) : PV → Option PV
  | .int i => (kvs.find? fun kv => match kv.1 with | .int j => decide (i = j) | _ => false).map (·.2)
  | .str i => (kvs.find? fun kv => match kv.1 with | .str j => decide (i = j) | _ => false).map (·.2)
  | _ => none
def ixV : PV → PV → Option PV
  | .lst xs, .int i => atI xs i
  | .tup xs, .int i => atI xs i
  | .str z, .int i => (atI z.cps.toList i).map fun c => .str ⟨#[c]⟩
  | _, _ => none
def slcV (v : PV) (lo hi : Option Int) : Option PV := match v with
  | .lst xs => some (.lst (cut xs lo hi))
  | .tup xs => some (.tup (cut xs lo hi))
  | .str z => some (.str (cutS z lo hi))
  | _ => none
def truV : PV → Option Bool
  | .bl b => some b
  | _ => none

/-! ### built-in functions, methods -/
inductive Prim where
  | len | tuple | list | abs | int | str | all | any | sum | sorted | min2 | max2
deriving DecidableEq
def allBl : List PV → Option (List Bool)
  | [] => some []
  | .bl b :: xs => (allBl xs).map (b :: ·)
  | _ :: _ => none
def allInt : List PV → Option (List Int)
  | [] => some []
  | .int b :: xs => (allInt xs).map (b :: ·)
  | _ :: _ => none
def allStr : List PV → Option (List Str)
  | [] => some []
  | .str b :: xs => (allStr xs).map (b :: ·)
  | _ :: _ => none
def insI (x : Int) : List Int → List Int
  | [] => [x]
  | y :: ys => if x ≤ y then x :: y :: ys else y :: insI x ys
def sortI : List Int → List Int
  | [] => []
  | x :: xs => insI x (sortI xs)
def primV : Prim → List PV → Option PV
  | .len, [.lst xs] => some (.int xs.length)
  | .len, [.tup xs] => some (.int xs.length)
  | .len, [.str z] => some (.int z.length)
  | .tuple, [.lst xs] => some (.tup xs)
  | .tuple, [.tup xs] => some (.tup xs)
  | .list, [.lst xs] => some (.lst xs)
  | .list, [.tup xs] => some (.lst xs)
  | .abs, [.int i] => some (.int (if i < 0 then -i else i))
  | .int, [.int i] => some (.int i)
  | .int, [.bl b] => some (.int (if b then 1 else 0))
  | .int, [.str z] => if z.length ≤ 640 then (intText? z).map .int else none
  | .str, [.int i] => if i.natAbs.log2 < 1920 then some (.str (Str.ofString (toString i))) else none
  | .all, [.lst xs] => (allBl xs).map fun bs => .bl (bs.all id)
  | .any, [.lst xs] => (allBl xs).map fun bs => .bl (bs.any id)
  | .sum, [.lst xs] => (allInt xs).map fun ns => .int ns.sum
  | .sum, [.tup xs] => (allInt xs).map fun ns => .int ns.sum
  | .sorted, [.lst xs] => (allInt xs).map fun ns => .lst ((sortI ns).map .int)
  | .min2, [.int a, .int b] => some (.int (if b < a then b else a))
  | .max2, [.int a, .int b] => some (.int (if b > a then b else a))
  | _, _ => none
inductive Mth where
  | split | join | startswith
deriving DecidableEq
def mthV : Mth → PV → List PV → Option PV
  | .split, .str a, [.str b] => if b.length ≠ 0 ∧ a.length + 2 ≤ sizeLine then some (.lst ((Txt.split a b).map .str)) else none
  | .join, .str a, [.lst xs] => (allStr xs).bind fun ys => if (ys.map (·.length)).sum + ys.length * a.length ≤ 16777216 then some (.str (Txt.join a ys)) else none
  | .startswith, .str a, [.str b] => some (.bl (Txt.startswith a b))
  | _, _, _ => none

/-! ### the code -/
inductive IT where
  | nm (i : Nat) | tp (ts : List IT)
mutual
inductive IE where
  | var (i : Nat) | bvar (i : Nat) | cst (v : PV) | glb (k : Nat)
  | tup (as : IA) | tups (as : IA) | lst (as : IA)
  | bin (op : BOp) (a b : IE) | neg (a : IE)
  | cmp (op : COp) (a b : IE) | chn (o1 o2 : COp) (a b c : IE)
  | not (a : IE) | and (a b : IE) | or (a b : IE) | ite (c a b : IE)
  | ix (a b : IE) | slc (a lo hi : IE) | nil
  | fld (a : IE) (f : Nat)
  | cal (f : Nat) (as : IA) | calk (f : Nat) (as ks : IA)
  | prm (p : Prim) (as : IA) | isi (a : IE) (ts : List CT) | mth (m : Mth) (a b : IE)
  | lrng (a : IE)
  | cmp1 (t : IT) (it : II) (cond elt : IE) | cmp2 (t : IT) (it : II) (cond : IE) (u : IT) (iu : II) (cu elt : IE)
  | rev (a : IE)
  | cau (e : IE)
  | drd (t : Bool) (i : Nat) | dcl (i : Nat) | dne (i : Nat) | dpp (i : Nat)
  | nev
inductive IA where
  | nil | cons (e : IE) (as : IA) | star (e : IE) (as : IA)
inductive II where
  | seq (e : IE) | rng1 (a : IE) | rng2 (a b : IE) | rng3 (a b c : IE) | enm (e : IE) | zip (a b : IE) | chr (e : IE)
end
inductive Fl where
  | nx (S : Env) | rt (v : PV) | bk (S : Env) | ct (S : Env)
mutual
inductive IS where
  | asg (t : IT) (e : IE) | own (i : Nat) (e : IE)
  | par (i j : Nat) (oi oj : Bool) (a b : IE)
  | seti (i : Nat) (k e : IE) | app (i : Nat) (e : IE) | appP (i j : Nat) (e : IE)
  | pop (i j : Nat)
  | exp (e : IE) | ret (e : IE) | retn
  | iff (c : IE) (a b : IB) | for_ (t : IT) (it : II) (b : IB) | whl (c : IE) (b : IB)
  | brk | cnt | pas
  | rai (c : Nat) | raia (c : Nat) (e : IE)
  | frz (i : Nat)
  | dst (t : Bool) (i : Nat) (e : IE)
inductive IB where
  | nil | cons (s : IS) (b : IB)
end

/-! ### its meaning -/
def setS (S : Env) (i : Nat) (v : SV) : Env := S.set i v
mutual
def bindT : IT → PV → Env → Option Env
  | .nm i, v, S => some (S.set i (.val v))
  | .tp ts, .tup vs, S => bindTs ts vs S
  | .tp _, _, _ => none
def bindTs : List IT → List PV → Env → Option Env
  | [], [], S => some S
  | t :: ts, v :: vs, S => (bindT t v S).bind fun S' => bindTs ts vs S'
  | _, _, _ => none
end
mutual
def IT.slots : IT → List Nat
  | .nm i => [i]
  | .tp ts => slotsL ts
def slotsL : List IT → List Nat
  | [] => []
  | t :: ts => t.slots ++ slotsL ts
end
def wipeE (S : Env) : List Nat → Env
  | [] => S
  | v :: vs => (wipeE S vs).set v .non
def compL (f : PV → M (Option PV)) : List PV → M (List PV)
  | [] => pure []
  | x :: xs => f x >>= fun r => compL f xs >>= fun ys => pure (match r with | some y => y :: ys | none => ys)
def compLL (f : PV → M (List PV)) : List PV → M (List PV)
  | [] => pure []
  | x :: xs => f x >>= fun r => compLL f xs >>= fun ys => pure (r ++ ys)
def intV : PV → Option Int
  | .int i => some i
  | _ => none
def seqV : PV → Option (List PV)
  | .lst xs => some xs
  | .tup xs => some xs
  | _ => none
def enumFrom (i : Nat) : List PV → List PV
  | [] => []
  | x :: xs => .tup [.int i, x] :: enumFrom (i + 1) xs
def zipV : List PV → List PV → List PV
  | x :: xs, y :: ys => .tup [x, y] :: zipV xs ys
  | _, _ => []
def rangeV (lo c : Int) : Nat → List PV
  | 0 => []
  | n + 1 => .int lo :: rangeV (lo + c) c n
/-- how many turns range(i, j, c) makes -/
def rangeN (i j c : Int) : Nat := if c = 1 then (j - i).toNat else if c = -1 then (i - j).toNat else 0
def small (i : Int) : Bool := decide (-1000000 ≤ i) && decide (i ≤ 1000000)
def strV : PV → Option Str
  | .str x => some x
  | _ => none
def IE.isNil : IE → Bool
  | .nil => true
  | _ => false
/-- where the slot holds the draw -/
def drwM {α : Type} (S : Env) (i : Nat) (m : M α) : M α := match S[i]? with
  | some (.val .drw) => m
  | _ => M.stuck
def popM (d : Dr) : List Int → Option (Out PV × Dr)
  | x :: r => some (.ok (.int x), { d with large := r })
  | [] => none
section
variable (T : Tab) (call : Nat → List PV → M PV)
mutual
def evE : IE → Env → M PV
  | .var i, S => match S[i]? with
    | some (.val v) => pure v
    | _ => M.stuck
  | .bvar i, S => match S[i]? with
    | some (.val v) => pure v
    | some (.own v) => pure v
    | _ => M.stuck
  | .cst v, _ => pure v
  | .glb k, _ => match T.consts[k]? with
    | some p => pure p.2
    | none => M.stuck
  | .tup as, S => evA as S >>= fun vs => pure (.tup vs)
  | .tups as, S => evA as S >>= fun vs => M.lift (if vs.length ≤ sizeLine then some (.tup vs) else none)
  | .lst as, S => evA as S >>= fun vs => pure (.lst vs)
  | .bin op a b, S => evE a S >>= fun x => evE b S >>= fun y => M.lift (binV op x y)
  | .neg a, S => evE a S >>= fun x => M.lift ((intV x).map fun i => .int (-i))
  | .cmp op a b, S => evE a S >>= fun x => evE b S >>= fun y => M.lift ((cmpV op x y).map .bl)
  | .chn o1 o2 a b c, S => evE a S >>= fun x => evE b S >>= fun y => M.lift (cmpV o1 x y) >>= fun r =>
    if r = true then evE c S >>= fun z => M.lift ((cmpV o2 y z).map .bl) else pure (.bl false)
  | .not a, S => evE a S >>= fun x => M.lift (truV x) >>= fun b => pure (.bl (!b))
  | .and a b, S => evE a S >>= fun x => M.lift (truV x) >>= fun c => if c = true then evE b S else pure (.bl false)
  | .or a b, S => evE a S >>= fun x => M.lift (truV x) >>= fun c => if c = true then pure (.bl true) else evE b S
  | .ite c a b, S => evE c S >>= fun x => M.lift (truV x) >>= fun d => if d = true then evE a S else evE b S
  | .ix a b, S => evE a S >>= fun x => evE b S >>= fun y => M.lift (ixV x y)
  | .slc a lo hi, S => evE a S >>= fun x =>
    (if lo.isNil = true then pure none else evE lo S >>= fun v => M.lift ((intV v).map some)) >>= fun l =>
    (if hi.isNil = true then pure none else evE hi S >>= fun v => M.lift ((intV v).map some)) >>= fun h => M.lift (slcV x l h)
  | .nil, _ => M.stuck
  | .fld a f, S => evE a S >>= fun x => M.lift (match x with
    | .obj c fs => if T.exc[c]? = some false then ((T.flds.getD c []).zip fs).lookup f else none
    | .exn c fs => if T.exc[c]? = some true then ((T.flds.getD c []).zip fs).lookup f else none
    | _ => none)
  | .cal f as, S => evA as S >>= fun vs => call f vs
  | .calk f as ks, S => evA as S >>= fun vs => evA ks S >>= fun ws => call f (vs ++ ws)
  | .prm p as, S => evA as S >>= fun vs => M.lift (primV p vs)
  | .isi a ts, S => evE a S >>= fun x => M.lift ((isAny T x ts).map .bl)
  | .mth m a b, S => evE a S >>= fun x => M.lift (strV x) >>= fun z => evE b S >>= fun y => M.lift (mthV m (.str z) [y])
  | .lrng a, S => evE a S >>= fun x => M.lift ((intV x).bind fun i => if small i then some (.lst (rangeV 0 1 i.toNat)) else none)
  | .cmp1 t it cond elt, S => evI it S >>= fun xs =>
    compL (fun x => M.noex (M.lift (bindT t x (wipeE S t.slots)) >>= fun S' =>
      (if cond.isNil = true then pure true else evE cond S' >>= fun v => M.lift (truV v)) >>= fun c =>
      if c = true then evE elt S' >>= fun v => pure (some v) else pure none)) xs >>= fun ys => pure (.lst ys)
  | .cmp2 t it cond u iu cu elt, S => evI it S >>= fun xs =>
    compLL (fun x => M.noex (M.lift (bindT t x (wipeE S (t.slots ++ u.slots))) >>= fun S' =>
      (if cond.isNil = true then pure true else evE cond S' >>= fun v => M.lift (truV v)) >>= fun c =>
      if c = true then evI iu S' >>= fun ys => compL (fun y => M.lift (bindT u y (wipeE S' u.slots)) >>= fun S'' =>
        (if cu.isNil = true then pure true else evE cu S'' >>= fun v => M.lift (truV v)) >>= fun c =>
        if c = true then evE elt S'' >>= fun v => pure (some v) else pure none) ys
      else pure [])) xs >>= fun ys => M.lift (if ys.length ≤ sizeLine then some (.lst ys) else none)
  | .rev a, S => evE a S >>= fun x => M.lift (match x with | .lst xs => some (.lst xs.reverse) | _ => none)
  | .cau e, S => fun d => match evE e S d with
    | some (.ok _, d') => some (.ok .non, d')
    | some (.exn c fs, d') => if T.exc[c]? = some true then some (.ok (.exn c fs), d') else none
    | none => none
  | .drd t i, S => drwM S i fun d => some (.ok (.int (if t = true then d.turn else d.rest)), d)
  | .dcl i, S => drwM S i fun d => some (.ok (.lst (d.cells.map .int)), d)
  | .dne i, S => drwM S i fun d => some (.ok (.bl (!d.large.isEmpty)), d)
  | .dpp i, S => drwM S i fun d => popM d d.large
  | .nev, _ => M.stuck
termination_by structural e => e
def evA : IA → Env → M (List PV)
  | .nil, _ => pure []
  | .cons e as, S => evE e S >>= fun v => evA as S >>= fun vs => pure (v :: vs)
  | .star e as, S => evE e S >>= fun v => M.lift (seqV v) >>= fun ws => evA as S >>= fun vs => pure (ws ++ vs)
termination_by structural e => e
def evI : II → Env → M (List PV)
  | .seq e, S => evE e S >>= fun v => M.lift (seqV v)
  | .rng1 a, S => evE a S >>= fun v => M.lift ((intV v).bind fun j => if small j then some (rangeV 0 1 j.toNat) else none)
  | .rng2 a b, S => evE a S >>= fun v => evE b S >>= fun w => M.lift ((intV v).bind fun i => (intV w).bind fun j => if small i && small j then some (rangeV i 1 (j - i).toNat) else none)
  | .rng3 a b c, S => evE a S >>= fun v => evE b S >>= fun w => evE c S >>= fun u => M.lift ((intV v).bind fun i => (intV w).bind fun j => (intV u).bind fun k =>
    if small i && small j && decide (k = -1) then some (rangeV i (-1) (i - j).toNat) else none)
  | .enm e, S => evE e S >>= fun v => M.lift (match v with | .lst xs => some (enumFrom 0 xs) | _ => none)
  | .zip a b, S => evE a S >>= fun v => evE b S >>= fun w => M.lift (match v, w with | .lst xs, .lst ys => some (zipV xs ys) | .tup xs, .tup ys => some (zipV xs ys) | _, _ => none)
  | .chr e, S => evE e S >>= fun v => M.lift (match v with | .str z => some (z.cps.toList.map fun c => .str ⟨#[c]⟩) | _ => none)
termination_by structural e => e
end
end

/-! ### statements -/
def forL (body : PV → Env → M Fl) : List PV → Env → M Fl
  | [], S => pure (.nx S)
  | x :: xs, S => body x S >>= fun f => match f with
    | .nx S' => forL body xs S'
    | .ct S' => forL body xs S'
    | .bk S' => pure (.nx S')
    | .rt v => pure (.rt v)
/-- n turns at most -/
def whlN (test : Env → M Bool) (body : Env → M Fl) : Nat → Env → M Fl
  | 0, _ => M.stuck
  | n + 1, S => test S >>= fun c => if c = true then body S >>= fun f => match f with
      | .nx S' => whlN test body n S'
      | .ct S' => whlN test body n S'
      | .bk S' => pure (.nx S')
      | .rt v => pure (.rt v)
    else pure (.nx S)
open Classical in
/-- as many turns as it takes -/
noncomputable def whlL (test : Env → M Bool) (body : Env → M Fl) (S : Env) : M Fl := fun d =>
  if h : ∃ n r, whlN test body n S d = some r then whlN test body (choose h) S d else none
/-- what goes into a slot: a list of one's own, or a value -/
def slotV : Bool → PV → Option SV
  | true, .lst xs => some (.own (.lst xs))
  | true, _ => none
  | false, v => some (.val v)
section
variable (T : Tab) (call : Nat → List PV → M PV)
mutual
noncomputable def evS : IS → Env → M Fl
  | .asg t e, S => evE T call e S >>= fun v => M.lift (bindT t v S) >>= fun S' => pure (.nx S')
  | .own i e, S => evE T call e S >>= fun v => M.lift (slotV true v) >>= fun sv => pure (.nx (S.set i sv))
  | .par i j oi oj a b, S => evE T call a S >>= fun v => M.lift (slotV oi v) >>= fun sa => evE T call b S >>= fun w => M.lift (slotV oj w) >>= fun sb => pure (.nx ((S.set i sa).set j sb))
  | .seti i k e, S => evE T call e S >>= fun v => match S[i]? with
    | some (.own (.lst xs)) => evE T call k S >>= fun w => M.lift ((intV w).bind fun z => (ixN xs.length z).map fun j => xs.set j v) >>= fun ys => pure (.nx (S.set i (.own (.lst ys))))
    | _ => M.stuck
  | .app i e, S => match S[i]? with
    | some (.own (.lst xs)) => evE T call e S >>= fun v => if xs.length < sizeLine then pure (.nx (S.set i (.own (.lst (xs ++ [v]))))) else M.stuck
    | _ => M.stuck
  | .appP i j e, S => match S[i]?, S[j]? with
    | some (.own (.lst xs)), some (.own (.lst ys)) => evE T call e S >>= fun v => M.lift ((intV v).bind fun z => if small z then (seqIndex? z ys.length).bind fun k => (ys[k]?).map fun y => (k, y) else none) >>= fun q =>
      if xs.length < sizeLine then pure (.nx ((S.set i (.own (.lst (xs ++ [q.2])))).set j (.own (.lst (ys.eraseIdx q.1))))) else M.stuck
    | _, _ => M.stuck
  | .pop i j, S => match S[j]? with
    | some (.own (.lst xs)) => match xs[xs.length - 1]? with
      | some v => pure (.nx ((S.set j (.own (.lst xs.dropLast))).set i (.val v)))
      | none => M.stuck
    | _ => M.stuck
  | .exp e, S => evE T call e S >>= fun _ => pure (.nx S)
  | .ret e, S => evE T call e S >>= fun v => pure (.rt v)
  | .retn, _ => pure (.rt .non)
  | .iff c a b, S => evE T call c S >>= fun v => M.lift (truV v) >>= fun d => if d = true then evB a S else evB b S
  | .for_ t it b, S => evI T call it S >>= fun xs => forL (fun x S' => M.lift (bindT t x S') >>= fun S'' => evB b S'') xs S
  | .whl c b, S => whlL (fun S' => evE T call c S' >>= fun v => M.lift (truV v)) (fun S' => evB b S') S
  | .brk, S => pure (.bk S)
  | .cnt, S => pure (.ct S)
  | .pas, S => pure (.nx S)
  | .rai c, _ => M.raise c []
  | .raia c e, S => evE T call e S >>= fun v => M.raise c [v]
  | .frz i, S => match S[i]? with
    | some (.own v) => pure (.nx (S.set i (.val v)))
    | _ => M.stuck
  | .dst t i e, S => evE T call e S >>= fun v => M.lift (intV v) >>= fun z => drwM S i fun d => some (.ok (.nx S), if t = true then { d with turn := z } else { d with rest := z })
termination_by structural s => s
noncomputable def evB : IB → Env → M Fl
  | .nil, S => pure (.nx S)
  | .cons s b, S => evS s S >>= fun f => match f with
    | .nx S' => evB b S'
    | .rt v => pure (.rt v)
    | .bk S' => pure (.bk S')
    | .ct S' => pure (.ct S')
termination_by structural s => s
end
end

/-! ### defs -/
/-- a def: its name, its slots by name (parameters first), how many parameters, its body -/
structure FD where
  name : Str
  N : List Str
  np : Nat
  body : IB
/-- a def by its text, or by hand -/
inductive FE where
  | code (d : FD) | hand (k : Nat) (f : List PV → M PV)
def FE.np : FE → Nat
  | .code d => d.np
  | .hand k _ => k
def finV : Fl → M PV
  | .nx _ => pure .non
  | .rt v => pure v
  | _ => M.stuck
noncomputable def callN (T : Tab) (F : List FE) : Nat → Nat → List PV → M PV
  | 0, _, _ => M.stuck
  | n + 1, f, vs => match F[f]? with
    | some (.code d) => if vs.length = d.np then evB T (callN T F n) d.body (vs.map .val ++ List.replicate (d.N.length - vs.length) .non) >>= finV else M.stuck
    | some (.hand k g) => if vs.length = k then g vs else M.stuck
    | none => M.stuck
theorem callN_len {T : Tab} {F : List FE} {n f : Nat} {vs : List PV} {D : Dr} {r : Out PV × Dr} (h : callN T F n f vs D = some r) : ∃ fe, F[f]? = some fe ∧ vs.length = fe.np := by
  cases n with
  | zero => cases h
  | succ n =>
    unfold callN at h
    cases e : F[f]? with
    | none => rw [e] at h; cases h
    | some fe =>
      rw [e] at h
      refine ⟨fe, rfl, ?_⟩
      cases fe with
      | code d =>
        by_cases e2 : vs.length = d.np
        · exact e2
        · simp only [if_neg e2] at h
          cases h
      | hand k g =>
        by_cases e2 : vs.length = k
        · exact e2
        · simp only [if_neg e2] at h
          cases h
end BA
/-! BaLook -/
set_option Elab.async false
set_option linter.all false
set_option maxRecDepth 100000
set_option maxHeartbeats 1000000
/-! BaLook: a law's data; what the head is asked, as one Bool. -/
namespace PySem
namespace BtX
def iS : Scope := { kind := .function, names := [(PySem.Str.ofString "self", .local), (PySem.Str.ofString "line", .local), (PySem.Str.ofString "__class__", .free), (PySem.Str.ofString "super", .globalImplicit)], isGenerator := false, isCoroutine := false, more := [] }
end BtX
end PySem
namespace BA
open PySem PySem.Spec PyProof.Rows L2 LamX
/-- what is fixed in a law: the written part, the draw record and its list, the classes, the lambdas' tables -/
structure GD where
  K : PySem.W.Frag
  d : Addr
  l : Addr
  cA : Nat → Addr
  flds : Nat → List Str
  Tb : List (Addr × Str)

/-- the names of a program -/
structure NM where
  /-- the defs, with their parameters -/
  fns : List (Str × List Str)
  /-- the fields, by number -/
  fld : List Str
  /-- the classes -/
  cls : List Str
def freeN : List Str := ["len", "tuple", "list", "abs", "int", "str", "all", "any", "sum", "sorted", "min", "max", "isinstance", "range", "enumerate", "zip", "bool", "dict"]

def mkA (ps : List (Str × Pos)) : Arguments := { posonlyargs := [], args := ps.map fun p => { arg := p.1, annotation := none, pos := p.2 }, vararg := none, kwonlyargs := [], kw_defaults := [], kwarg := none, defaults := [] }
def kT (g : GD) : PV → Value
  | .non => .type "NoneType" | .bl _ => .type "bool" | .int _ => .type "int" | .str _ => .type "str" | .tup _ => .type "tuple" | .lst _ => .type "list" | .dct _ => .type "dict"
  | .obj c _ => .ref (g.cA c) | .exn c _ => .ref (g.cA c) | .drw => .type "dict"
def cTv (g : GD) : CT → Value
  | .int => .type "int" | .bool => .type "bool" | .str => .type "str" | .list => .type "list" | .tuple => .type "tuple" | .dict => .type "dict" | .own c => .ref (g.cA c)
mutual
def valB (K : PySem.W.Frag) : PV → Value → Bool
  | .non, u => (match u with
    | .none => true
    | _ => false)
  | .bl b, u => (match u with
    | .bool c => b == c
    | _ => false)
  | .int i, u => (match u with
    | .int j _ => decide (i = j)
    | _ => false)
  | .str x, u => (match u with
    | .str y _ => decide (x = y) && decide (x.length ≤ sizeLine)
    | _ => false)
  | .tup vs, u => (match u with
    | .ref a => (match K.lookup a with
      | some ⟨.type c, _, .seq its _, _⟩ => decide (c = "tuple") && decide (its.size ≤ sizeLine) && valsB K vs its.toList
      | _ => false)
    | _ => false)
  | _, _ => false
def valsB (K : PySem.W.Frag) : List PV → List Value → Bool
  | [], us => us.isEmpty
  | v :: vs, us => (match us with
    | u :: us => valB K v u && valsB K vs us
    | [] => false)
end
def kinds (T : Tab) : List PV := [.non, .bl true, .int 0, .str Str.empty, .tup [], .lst [], .dct []] ++ (List.range T.exc.length).flatMap fun c => [.obj c [], .exn c []]
def cts (T : Tab) : List CT := [.int, .bool, .str, .list, .tuple, .dict] ++ (List.range T.flds.length).map .own
def isaB (g : GD) (T : Tab) : Bool := (kinds T).all fun v => (cts T).all fun c => match isOne T v c with
  | some b => decide (PySem.W.kitOne g.K (kT g v) (cTv g c) = some b)
  | none => true
section
variable (K : PySem.W.Frag)
def excB (D : Addr) : Bool :=
  He.eqO (PySem.W.findIn K (.ref D) "__getattribute__") (some (some (.builtin "BaseException.__getattribute__"))) && (He.eqO (PySem.W.findIn K (.ref D) "__getattr__") (some none) && (decide (PySem.W.subIn K (.ref D) (.type "BaseException") = some true) &&
  (PySem.W.hasDictIn K D && (He.eqO (PySem.W.findIn K (.ref D) "__class__") (some (some (.builtin "object.__class__"))) && (He.eqO (PySem.W.specialIn K (.builtin "object.__class__") "__get__") (some (some (.builtin "getset_descriptor.__get__"))) &&
  (decide (PySem.W.takesIn K (.builtin "object.__class__") = some true) && decide (PySem.W.mroIn K D (.type "object") = some true)))))))
def clsFa (D : Addr) : Bool := PySem.W.plainGet K D Str.empty && (PySem.W.hasDictIn K D && (PySem.W.plainOver K D && He.eqO (PySem.W.findIn K (.ref D) "__setattr__") (some (some (.builtin "object.__setattr__")))))
def objB (D : Addr) : Bool := clsFa K D && (He.eqO (PySem.W.findIn K (.ref D) "__class__") (some (some (.builtin "object.__class__"))) && (He.eqO (PySem.W.specialIn K (.builtin "object.__class__") "__get__") (some (some (.builtin "getset_descriptor.__get__"))) &&
  (decide (PySem.W.takesIn K (.builtin "object.__class__") = some true) && decide (PySem.W.mroIn K D (.type "object") = some true))))
/-- raising without an own __init__ -/
def raiB (D : Addr) : Bool := PySem.W.excIn K D He.veBase "ValueError.__new__" && (PySem.W.keepIn K (.ref D) && (decide (PySem.W.subIn K (.ref D) (.type "BaseException") = some true) && decide (PySem.W.typeIn K (.ref D) = some (.type "type"))))
/-- the text of BadText.__init__ -/
def btPs : Arguments → Bool
  | ⟨[], [⟨a, none, _⟩, ⟨b, none, _⟩], none, [], [], none, []⟩ => decide (a = "self") && decide (b = "line")
  | _ => false
def btBody : FuncBody → Bool
  | .stmts [.Expr (.Call (.Attribute (.Call (.Name a _) [] [] _) b r2) [.Constant (.str _) _ _] [] r4) _, .Assign [.Attribute (.Name c _) d _] (.Name e _) _] =>
    decide (a = "super") && (decide (b = "__init__") && (decide (c = "self") && (decide (d = "line") && (decide (e = "line") && (r2.endLine == r4.line)))))
  | _ => false
def btFn (file : Str) (C fI : Addr) : Bool := match K.lookup fI with
  | some ⟨_, _, .func fd, _⟩ => decide (fd.name = "__init__") && (decide (fd.qualname = "BadText.__init__") && (btPs fd.params && (btBody fd.body && (decide (fd.scope = PySem.BtX.iS) && (decide (fd.globals = mainGlobals) && (decide (fd.defaults = .none) && (decide (fd.kwdefaults = .none) &&
    (decide (fd.builtins = builtinsNs) && (match fd.closure, fd.code with
      | [(x, cc)], .ref cda => decide (x = "__class__") && (PySem.W.codeIn K (.ref cda) "BadText.__init__" && ((match K.lookup cc with
        | some ⟨_, _, .cell (some v), _⟩ => decide (v = .ref C)
        | _ => false) && (match K.lookup cda with
        | some ⟨_, _, .fields vs, _⟩ => (match (vs[2]? : Option Value) with
          | some (.str f _) => file == f
          | _ => false)
        | _ => false)))
      | _, _ => false)))))))))
  | _ => false
def btCls (C : Addr) : Bool := match K.lookup C with
  | some ⟨.type t, _, .cls cd, sl⟩ => (match cd.mro, sl.toList with
    | .ref C' :: bm, [_, _, _, _, some (.builtin n), _] => decide (t = "type") && (decide (C' = C) && (decide (n = "ValueError.__new__") && (!cd.hasDel && (cd.hasDict && HandSPX.refsVE bm))))
    | _, _ => false)
  | _ => false
def btB (prog : Program) (C : Addr) : Bool := btCls K C && (He.eqO (PySem.W.findIn K (.ref C) "__setattr__") (some (some (.builtin "object.__setattr__"))) && (He.eqO (PySem.W.findIn K (.ref C) "line") (some none) &&
  (He.eqO (PySem.W.findIn K (.ref C) "__init__") (some (some (.ref (He.ma K C "__init__")))) && (decide (PySem.W.typeIn K (.ref (He.ma K C "__init__")) = some (.type "function")) && (PySem.W.keepIn K (.ref C) && (decide (PySem.W.subIn K (.ref C) (.type "BaseException") = some true) &&
  (decide (PySem.W.typeIn K (.ref C) = some (.type "type")) && (PySem.W.hasDictIn K C && (He.eqO (PySem.W.nsIn K mainGlobals "super") (some none) && (!(prog.main.scope.names.lookup ("super" : Str)).isSome &&
  (He.eqO (PySem.W.ks_superIn K C C "__init__") (some (some (.builtin "ValueError.__init__"))) && (decide (PySem.W.subIn K (.ref C) (.type "ValueError") = some true) && (decide (PySem.W.mroIn K C (.ref C) = some true) &&
  (He.eqO (PySem.W.nsIn K cStatics "thirdparty.any") (some none) && btFn K prog.main.file C (He.ma K C "__init__")))))))))))))))
end
/-- a law's data: the program, its names, its table, its code; the defs as they stand -/
structure Dat where
  prog : Program
  nm : NM
  T : Tab
  code : List (FD × Bool)
  ds : List He.DefD
  lams : List Str
def Dat.F (Dt : Dat) : List FE := Dt.code.map fun p => .code p.1
/-! ### the world -/
section
variable (Dt : Dat) (K : PySem.W.Frag)
def Dat.cA (c : Nat) : Addr := He.ga K (Dt.nm.cls.getD c Str.empty)
def Dat.flds (c : Nat) : List Str := (Dt.T.flds.getD c []).map fun f => Dt.nm.fld.getD f Str.empty
def lamN (x : Str) : Str := (x ++ (".<locals>." : Str)) ++ ("<lambda>" : Str)
def Dat.Tb : List (Addr × Str) := Dt.lams.map fun x => ((He.cT K (x, none)).2, lamN x)
def Dat.cs : List (Addr × Addr) := Dt.lams.map fun x => He.cT K (x, none)
def Dat.gd (d l : Addr) : GD := ⟨K, d, l, Dt.cA K, Dt.flds, Dt.Tb K⟩
def Dat.fA (f : Nat) : Addr := He.ga K ((Dt.nm.fns.getD f (Str.empty, [])).1)
def Dat.fD (f : Nat) : FuncData := match K.lookup (Dt.fA K f) with
  | some ⟨_, _, .func fd, _⟩ => fd
  | _ => PySem.W.fnOf Str.empty Str.empty (mkA []) [] PySem.BtX.iS .none .none .none .none none .none .none
/-- what is asked of a class -/
def Dat.clsB (c : Nat) : Bool := match Dt.T.exc[c]? with
  | some true => excB K (Dt.cA K c) && (decide (PySem.W.exmOne K (.ref (Dt.cA K c)) (.ref (He.ga K "StopError")) = some true) && (match Dt.T.flds.getD c [] with
    | [] => raiB K (Dt.cA K c)
    | [_] => btB K Dt.prog (Dt.cA K c) && decide (Dt.flds c = [("line" : Str)])
    | _ => true))
  | some false => objB K (Dt.cA K c)
  | none => true
def Dat.fldB (c : Nat) : Bool := (Dt.T.flds.getD c []).all fun f => decide (f < Dt.nm.fld.length) && He.eqO (PySem.W.findIn K (.ref (Dt.cA K c)) (Dt.nm.fld.getD f Str.empty)) (some none)
def Dat.constB : Bool := Dt.T.consts.all fun p => match PySem.W.nsIn K mainGlobals p.1 with
  | some (some u) => valB K p.2 u
  | _ => false
def noLst : Bool := K.all fun q => !decide (q.2.cls = .type "list")
def Dat.exB : Bool := Dt.constB K && ((freeN.all fun x => (He.Fa.free x).ok K) && ((Dt.nm.fns.all fun q => (He.Fa.glo q.1).ok K) && ((Dt.nm.cls.all fun x => (He.Fa.glo x).ok K) && (isaB (Dt.gd K 0 0) Dt.T && (((List.range Dt.T.exc.length).all fun c => Dt.clsB K c) &&
  (((List.range Dt.T.flds.length).all fun c => Dt.fldB K c) && (decide ((Dt.Tb K).map (·.1)).Nodup && ((He.Fa.glo "_law_caught").ok K && ((He.Fa.glo "StopError").ok K && ((He.Fa.glo "_law_begun").ok K && noLst K))))))))))
end
def asY (g : Addr → Option Obj) (n : Nat) : List Addr := cStatics :: He.asD g n
abbrev frY (g : Addr → Option Obj) (n : Nat) : PySem.W.Frag := He.frT g (asY g n)
end BA
/-! BaHook -/
set_option Elab.async false
set_option linter.all false
set_option maxRecDepth 100000
set_option maxHeartbeats 1000000
/-! BaHook: what the head is asked: the module's names and what they reach, the statics too. -/
namespace BA
open PySem PySem.Spec PyProof.Rows L2 LamX
structure SaysY (fn : List He.DefD) (tf : List He.Defn) (ex : PySem.W.Frag → Bool) (h : Heap) (K : PySem.W.Frag) : Prop where
  d : He.SaysD [] fn K
  more : ex K = true
  hd : ∀ p ∈ tf, PySem.W.codeHdIn K (He.cT K p).1 (He.cT K p).2 = true
  out : ∀ p ∈ tf, K.lookup (He.cT K p).2 = none
  empty : ∀ p ∈ tf, h.get? (He.cT K p).2 = some { cls := .none, data := .fields #[] }
abbrev AlY : Type := He.AlD × Bool
def obsY (n : Nat) (fn : List He.DefD) (tf : List He.Defn) (ex : PySem.W.Frag → Bool) (g : Addr → Option Obj) : AlY := (He.obsD [] fn (frY g n), ex (frY g n) && He.tabsB g tf (frY g n))
def valY (fn : List He.DefD) : AlY := (He.valD fn, true)
theorem saysY_of {n : Nat} {fn : List He.DefD} {tf : List He.Defn} {ex : PySem.W.Frag → Bool} {h : Heap} (e : obsY n fn tf ex h.get? = valY fn) : SaysY fn tf ex h (frY h.get? n) := by
  have e1 : He.obsD [] fn (frY h.get? n) = He.valD fn := congrArg (fun z : AlY => z.1) e
  obtain ⟨h1, h2⟩ := He.ba (show (ex (frY h.get? n) && He.tabsB h.get? tf (frY h.get? n)) = true from congrArg (fun z : AlY => z.2) e)
  have key : ∀ p ∈ tf, PySem.W.codeHdIn (frY h.get? n) (He.cT (frY h.get? n) p).1 (He.cT (frY h.get? n) p).2 = true ∧ ∃ o, h.get? (He.cT (frY h.get? n) p).2 = some o ∧ He.emptyTab o = true := fun p hp => by
    obtain ⟨h3, h4⟩ := He.ba (List.all_eq_true.mp h2 p hp)
    refine ⟨h3, ?_⟩
    cases q : h.get? (He.cT (frY h.get? n) p).2 with
    | none => rw [q] at h4; cases h4
    | some o => rw [q] at h4; exact ⟨o, rfl, h4⟩
  refine ⟨e1, h1, fun p hp => (key p hp).1, fun p hp => ?_, fun p hp => ?_⟩
  · obtain ⟨_, o, q, z⟩ := key p hp
    exact He.frT_none q z
  · obtain ⟨_, o, q, z⟩ := key p hp
    rw [q, He.emptyTab_eq z]
def hookY (n : Nat) (fn : List He.DefD) (tf : List He.Defn) (ex : PySem.W.Frag → Bool) : PySem.W.Hook where
  α := AlY
  obs := fun s => obsY n fn tf ex s.heap.get?
  val := fun _ => valY fn
  says := fun _ h => ∃ K : PySem.W.Frag, K.In h ∧ SaysY fn tf ex h K
  of := fun _ _ e => ⟨_, He.frT_in, saysY_of e⟩
  keeps := fun _ _ _ ⟨K, hK, c⟩ k => ⟨K, PySem.W.Frag.In.keeps hK k, ⟨c.d, c.more, c.hd, c.out, fun p hp => k _ _ (c.empty p hp)⟩⟩
theorem obsY_eq {n : Nat} {fn : List He.DefD} {tf : List He.Defn} {ex : PySem.W.Frag → Bool} {g : Addr → Option Obj} {s : Shared} (h : ∀ a, g a = s.heap.get? a) : obsY n fn tf ex g = (hookY n fn tf ex).obs s := by
  have e : g = s.heap.get? := funext h
  rw [e] <;> rfl
end BA
/-! LiA -/
set_option linter.all false
set_option maxRecDepth 100000
/-! LiA: code (printed by lib.py). -/
namespace BA.Li
open PySem BA
def c_is_number : IB := (.cons (.ret (.and (.isi (.var 0) [.int]) (.not (.isi (.var 0) [.bool])))) .nil)
def d_is_number : FD := ⟨"is_number", ["thing"], 1, c_is_number⟩
def c_divisor_of : IB := (.cons (.asg (.nm 1) (.cst (.int 0))) (.cons (.for_ (.nm 2) (.seq (.var 0)) (.cons (.par 3 4 false false (.var 1) (.prm .abs (.cons (.var 2) .nil))) (.cons (.whl (.cmp .ne (.var 4) (.cst (.int 0))) (.cons (.par 3 4 false false (.var 4) (.bin .mod (.var 3) (.var 4))) .nil)) (.cons (.asg (.nm 1) (.var 3)) .nil)))) (.cons (.ret (.var 1)) .nil)))
def d_divisor_of : FD := ⟨"divisor_of", ["numbers", "found", "number", "here", "there"], 1, c_divisor_of⟩
def c_ratio_of (f_divisor_of : Nat) : IB := (.cons (.asg (.nm 2) (.ite (.cmp .gt (.var 1) (.cst (.int 0))) (.cal f_divisor_of (.cons (.tup (.cons (.var 0) (.cons (.var 1) .nil))) .nil)) (.bin .sub (.cst (.int 0)) (.cal f_divisor_of (.cons (.tup (.cons (.var 0) (.cons (.var 1) .nil))) .nil))))) (.cons (.ret (.tup (.cons (.bin .fdiv (.var 0) (.var 2)) (.cons (.bin .fdiv (.var 1) (.var 2)) .nil)))) .nil))
def d_ratio_of (f_divisor_of : Nat) : FD := ⟨"ratio_of", ["above", "below", "found"], 2, c_ratio_of f_divisor_of⟩
def c_is_ratio (f_divisor_of f_is_number : Nat) : IB := (.cons (.iff (.or (.not (.isi (.var 0) [.tuple])) (.or (.cmp .ne (.prm .len (.cons (.var 0) .nil)) (.cst (.int 2))) (.or (.not (.cal f_is_number (.cons (.ix (.var 0) (.cst (.int 0))) .nil))) (.not (.cal f_is_number (.cons (.ix (.var 0) (.cst (.int 1))) .nil)))))) (.cons (.ret (.cst (.bl false))) .nil) .nil) (.cons (.ret (.and (.cmp .ge (.ix (.var 0) (.cst (.int 1))) (.cst (.int 1))) (.cmp .eq (.cal f_divisor_of (.cons (.var 0) .nil)) (.cst (.int 1))))) .nil))
def d_is_ratio (f_divisor_of f_is_number : Nat) : FD := ⟨"is_ratio", ["thing"], 1, c_is_ratio f_divisor_of f_is_number⟩
def c_sum_of (f_ratio_of : Nat) : IB := (.cons (.ret (.cal f_ratio_of (.cons (.bin .add (.bin .mul (.ix (.var 0) (.cst (.int 0))) (.ix (.var 1) (.cst (.int 1)))) (.bin .mul (.ix (.var 1) (.cst (.int 0))) (.ix (.var 0) (.cst (.int 1))))) (.cons (.bin .mul (.ix (.var 0) (.cst (.int 1))) (.ix (.var 1) (.cst (.int 1)))) .nil)))) .nil)
def d_sum_of (f_ratio_of : Nat) : FD := ⟨"sum_of", ["one", "other"], 2, c_sum_of f_ratio_of⟩
def c_less_of (f_ratio_of : Nat) : IB := (.cons (.ret (.cal f_ratio_of (.cons (.bin .sub (.bin .mul (.ix (.var 0) (.cst (.int 0))) (.ix (.var 1) (.cst (.int 1)))) (.bin .mul (.ix (.var 1) (.cst (.int 0))) (.ix (.var 0) (.cst (.int 1))))) (.cons (.bin .mul (.ix (.var 0) (.cst (.int 1))) (.ix (.var 1) (.cst (.int 1)))) .nil)))) .nil)
def d_less_of (f_ratio_of : Nat) : FD := ⟨"less_of", ["one", "other"], 2, c_less_of f_ratio_of⟩
def c_product_of (f_ratio_of : Nat) : IB := (.cons (.ret (.cal f_ratio_of (.cons (.bin .mul (.ix (.var 0) (.cst (.int 0))) (.ix (.var 1) (.cst (.int 0)))) (.cons (.bin .mul (.ix (.var 0) (.cst (.int 1))) (.ix (.var 1) (.cst (.int 1)))) .nil)))) .nil)
def d_product_of (f_ratio_of : Nat) : FD := ⟨"product_of", ["one", "other"], 2, c_product_of f_ratio_of⟩
def c_is_below : IB := (.cons (.ret (.cmp .lt (.bin .mul (.ix (.var 0) (.cst (.int 0))) (.ix (.var 1) (.cst (.int 1)))) (.bin .mul (.ix (.var 1) (.cst (.int 0))) (.ix (.var 0) (.cst (.int 1)))))) .nil)
def d_is_below : FD := ⟨"is_below", ["one", "other"], 2, c_is_below⟩
def c_is_short (k_BEYOND : Nat) : IB := (.cons (.ret (.cmp .lt (.prm .abs (.cons (.var 0) .nil)) (.glb k_BEYOND))) .nil)
def d_is_short (k_BEYOND : Nat) : FD := ⟨"is_short", ["number"], 1, c_is_short k_BEYOND⟩
def c_number_from (k_FIGURES k_MOST_FIGURES : Nat) : IB := (.cons (.asg (.nm 1) (.ite (.mth .startswith (.var 0) (.cst (.str "-"))) (.slc (.var 0) (.cst (.int 1)) .nil) (.var 0))) (.cons (.iff (.or (.not (.chn .le .le (.cst (.int 1)) (.prm .len (.cons (.var 1) .nil)) (.glb k_MOST_FIGURES))) (.cmp .ne (.cmp1 (.nm 2) (.chr (.var 1)) (.cmp .nin (.var 2) (.glb k_FIGURES)) (.cst (.int 1))) (.lst .nil))) (.cons (.ret (.cst .non)) .nil) .nil) (.cons (.iff (.and (.mth .startswith (.var 1) (.cst (.str "0"))) (.cmp .ne (.var 0) (.cst (.str "0")))) (.cons (.ret (.cst .non)) .nil) .nil) (.cons (.ret (.prm .int (.cons (.var 0) .nil))) .nil))))
def d_number_from (k_FIGURES k_MOST_FIGURES : Nat) : FD := ⟨"number_from", ["word", "figures", "sign"], 1, c_number_from k_FIGURES k_MOST_FIGURES⟩
def c_numbers_from (f_number_from : Nat) : IB := (.cons (.asg (.nm 1) (.prm .tuple (.cons (.cmp1 (.nm 2) (.seq (.var 0)) .nil (.cal f_number_from (.cons (.var 2) .nil))) .nil))) (.cons (.ret (.ite (.cmp .inn (.cst .non) (.var 1)) (.cst .non) (.var 1))) .nil))
def d_numbers_from (f_number_from : Nat) : FD := ⟨"numbers_from", ["words", "found", "word"], 1, c_numbers_from f_number_from⟩
def c_ratio_word : IB := (.cons (.ret (.ite (.cmp .eq (.ix (.var 0) (.cst (.int 1))) (.cst (.int 1))) (.prm .str (.cons (.ix (.var 0) (.cst (.int 0))) .nil)) (.bin .add (.bin .add (.prm .str (.cons (.ix (.var 0) (.cst (.int 0))) .nil)) (.cst (.str "/"))) (.prm .str (.cons (.ix (.var 0) (.cst (.int 1))) .nil))))) .nil)
def d_ratio_word : FD := ⟨"ratio_word", ["ratio"], 1, c_ratio_word⟩
def c_ratio_from (f_is_ratio f_numbers_from f_ratio_word : Nat) : IB := (.cons (.asg (.nm 1) (.cal f_numbers_from (.cons (.mth .split (.var 0) (.cst (.str "/"))) .nil))) (.cons (.iff (.or (.cmp .is (.var 1) (.cst .non)) (.cmp .gt (.prm .len (.cons (.var 1) .nil)) (.cst (.int 2)))) (.cons (.ret (.cst .non)) .nil) .nil) (.cons (.asg (.nm 1) (.ite (.cmp .eq (.prm .len (.cons (.var 1) .nil)) (.cst (.int 1))) (.tups (.star (.var 1) (.cons (.cst (.int 1)) .nil))) (.var 1))) (.cons (.ret (.ite (.and (.cal f_is_ratio (.cons (.var 1) .nil)) (.cmp .eq (.cal f_ratio_word (.cons (.var 1) .nil)) (.var 0))) (.var 1) (.cst .non))) .nil))))
def d_ratio_from (f_is_ratio f_numbers_from f_ratio_word : Nat) : FD := ⟨"ratio_from", ["word", "found"], 1, c_ratio_from f_is_ratio f_numbers_from f_ratio_word⟩
def c_is_short_ratio (f_is_ratio f_is_short : Nat) : IB := (.cons (.ret (.and (.cal f_is_ratio (.cons (.var 0) .nil)) (.and (.cal f_is_short (.cons (.ix (.var 0) (.cst (.int 0))) .nil)) (.cal f_is_short (.cons (.ix (.var 0) (.cst (.int 1))) .nil))))) .nil)
def d_is_short_ratio (f_is_ratio f_is_short : Nat) : FD := ⟨"is_short_ratio", ["thing"], 1, c_is_short_ratio f_is_ratio f_is_short⟩
def c_is_triple (f_is_ratio : Nat) : IB := (.cons (.iff (.or (.not (.isi (.var 0) [.tuple])) (.or (.cmp .ne (.prm .len (.cons (.var 0) .nil)) (.cst (.int 3))) (.not (.prm .all (.cons (.cmp1 (.nm 1) (.seq (.var 0)) .nil (.cal f_is_ratio (.cons (.var 1) .nil))) .nil))))) (.cons (.ret (.cst (.bl false))) .nil) .nil) (.cons (.ret (.and (.cmp .ge (.ix (.ix (.var 0) (.cst (.int 0))) (.cst (.int 0))) (.cst (.int 0))) (.chn .le .le (.cst (.int 0)) (.ix (.ix (.var 0) (.cst (.int 2))) (.cst (.int 0))) (.ix (.ix (.var 0) (.cst (.int 2))) (.cst (.int 1)))))) .nil))
def d_is_triple (f_is_ratio : Nat) : FD := ⟨"is_triple", ["thing", "item"], 1, c_is_triple f_is_ratio⟩
def c_goes_on (f_is_below f_less_of f_product_of f_sum_of : Nat) : IB := (.cons (.iff (.or (.not (.cal f_is_below (.cons (.ix (.var 0) (.cst (.int 0))) (.cons (.ix (.var 1) (.cst (.int 0))) .nil)))) (.not (.cal f_is_below (.cons (.ix (.var 0) (.cst (.int 2))) (.cons (.ix (.var 1) (.cst (.int 2))) .nil))))) (.cons (.ret (.cst (.bl false))) .nil) .nil) (.cons (.ret (.cmp .eq (.ix (.var 1) (.cst (.int 1))) (.cal f_sum_of (.cons (.ix (.var 0) (.cst (.int 1))) (.cons (.cal f_product_of (.cons (.ix (.var 0) (.cst (.int 2))) (.cons (.cal f_less_of (.cons (.ix (.var 1) (.cst (.int 0))) (.cons (.ix (.var 0) (.cst (.int 0))) .nil))) .nil))) .nil))))) .nil))
def d_goes_on (f_is_below f_less_of f_product_of f_sum_of : Nat) : FD := ⟨"goes_on", ["one", "other"], 2, c_goes_on f_is_below f_less_of f_product_of f_sum_of⟩
def c_is_profile_of (f_goes_on f_is_below f_is_triple k_ALL k_NONE : Nat) : IB := (.cons (.iff (.or (.not (.isi (.var 0) [.tuple])) (.or (.cmp .eq (.prm .len (.cons (.var 0) .nil)) (.cst (.int 0))) (.not (.prm .all (.cons (.cmp1 (.nm 3) (.seq (.var 0)) .nil (.cal f_is_triple (.cons (.var 3) .nil))) .nil))))) (.cons (.ret (.cst (.bl false))) .nil) .nil) (.cons (.iff (.or (.cmp .ne (.ix (.ix (.var 0) (.cst (.int 0))) (.cst (.int 0))) (.glb k_NONE)) (.or (.cmp .ne (.ix (.ix (.var 0) (.neg (.cst (.int 1)))) (.cst (.int 2))) (.glb k_ALL)) (.cal f_is_below (.cons (.ix (.ix (.var 0) (.neg (.cst (.int 1)))) (.cst (.int 1))) (.cons (.ix (.ix (.var 0) (.neg (.cst (.int 1)))) (.cst (.int 0))) .nil))))) (.cons (.ret (.cst (.bl false))) .nil) .nil) (.cons (.ret (.prm .all (.cons (.cmp1 (.tp [(.nm 1), (.nm 2)]) (.zip (.var 0) (.slc (.var 0) (.cst (.int 1)) .nil)) .nil (.cal f_goes_on (.cons (.var 1) (.cons (.var 2) .nil)))) .nil))) .nil)))
def d_is_profile_of (f_goes_on f_is_below f_is_triple k_ALL k_NONE : Nat) : FD := ⟨"is_profile_of", ["thing", "one", "other", "item"], 1, c_is_profile_of f_goes_on f_is_below f_is_triple k_ALL k_NONE⟩
def c_triple_from (f_ratio_from : Nat) : IB := (.cons (.asg (.nm 1) (.prm .tuple (.cons (.cmp1 (.nm 2) (.seq (.mth .split (.var 0) (.cst (.str ",")))) .nil (.cal f_ratio_from (.cons (.var 2) .nil))) .nil))) (.cons (.ret (.ite (.cmp .inn (.cst .non) (.var 1)) (.cst .non) (.var 1))) .nil))
def d_triple_from (f_ratio_from : Nat) : FD := ⟨"triple_from", ["word", "found", "part"], 1, c_triple_from f_ratio_from⟩
def c_profile_line (f_ratio_word : Nat) : IB := (.cons (.ret (.mth .join (.cst (.str " ")) (.cmp1 (.nm 1) (.seq (.var 0)) .nil (.mth .join (.cst (.str ",")) (.cmp1 (.nm 2) (.seq (.var 1)) .nil (.cal f_ratio_word (.cons (.var 2) .nil))))))) .nil)
def d_profile_line (f_ratio_word : Nat) : FD := ⟨"profile_line", ["profile", "triple", "item"], 1, c_profile_line f_ratio_word⟩
def c_profile_text (C_BadProfile f_is_profile_of f_is_short_ratio f_profile_line : Nat) : IB := (.cons (.iff (.or (.not (.cal f_is_profile_of (.cons (.var 0) .nil))) (.not (.prm .all (.cons (.cmp2 (.nm 1) (.seq (.var 0)) .nil (.nm 2) (.seq (.var 1)) .nil (.cal f_is_short_ratio (.cons (.var 2) .nil))) .nil)))) (.cons (.rai C_BadProfile) .nil) .nil) (.cons (.ret (.cal f_profile_line (.cons (.var 0) .nil))) .nil))
def d_profile_text (C_BadProfile f_is_profile_of f_is_short_ratio f_profile_line : Nat) : FD := ⟨"profile_text", ["profile", "triple", "item"], 1, c_profile_text C_BadProfile f_is_profile_of f_is_short_ratio f_profile_line⟩
def c_read_profile (C_BadText f_is_profile_of f_triple_from : Nat) : IB := (.cons (.asg (.nm 1) (.ite (.isi (.var 0) [.str]) (.prm .tuple (.cons (.cmp1 (.nm 2) (.seq (.mth .split (.var 0) (.cst (.str " ")))) .nil (.cal f_triple_from (.cons (.var 2) .nil))) .nil)) (.tup .nil))) (.cons (.iff (.or (.cmp .inn (.cst .non) (.var 1)) (.not (.cal f_is_profile_of (.cons (.var 1) .nil)))) (.cons (.raia C_BadText (.cst .non)) .nil) .nil) (.cons (.ret (.var 1)) .nil)))
def d_read_profile (C_BadText f_is_profile_of f_triple_from : Nat) : FD := ⟨"read_profile", ["text", "found", "word"], 1, c_read_profile C_BadText f_is_profile_of f_triple_from⟩
def c__law_mixed : IB := (.cons (.dst true 0 (.bin .add (.drd true 0) (.cst (.int 1)))) (.cons (.par 2 3 false false (.prm .int (.cons (.drd true 0) .nil)) (.cst (.int 0))) (.cons (.for_ (.nm 1) (.seq (.lst (.cons (.cst (.int 2147483647)) (.cons (.cst (.int 2147483629)) (.cons (.cst (.int 2147483587)) .nil))))) (.cons (.asg (.nm 4) (.bin .mod (.bin .add (.bin .mul (.var 2) (.cst (.int 48271))) (.bin .fdiv (.var 1) (.cst (.int 11)))) (.var 1))) (.cons (.for_ (.nm 5) (.seq (.dcl 0)) (.cons (.asg (.nm 4) (.bin .mod (.bin .add (.bin .add (.bin .mul (.var 4) (.cst (.int 69621))) (.prm .int (.cons (.var 5) .nil))) (.var 2)) (.var 1))) .nil)) (.cons (.asg (.nm 3) (.bin .add (.bin .mul (.var 3) (.cst (.int 2147483659))) (.bin .mod (.bin .pow (.var 4) (.cst (.int 5))) (.var 1)))) .nil)))) (.cons (.ret (.var 3)) .nil))))
def d__law_mixed : FD := ⟨"_law_mixed", ["draw", "great", "turn", "found", "blend", "cell"], 1, c__law_mixed⟩
def c__law_take (f__law_mixed : Nat) : IB := (.cons (.iff (.cmp .eq (.drd false 0) (.cst (.int 0))) (.cons (.dst false 0 (.ite (.dne 0) (.dpp 0) (.cal f__law_mixed (.cons (.var 0) .nil)))) .nil) .nil) (.cons (.asg (.nm 2) (.bin .mod (.prm .int (.cons (.drd false 0) .nil)) (.var 1))) (.cons (.dst false 0 (.bin .fdiv (.prm .int (.cons (.drd false 0) .nil)) (.var 1))) (.cons (.ret (.var 2)) .nil))))
def d__law_take (f__law_mixed : Nat) : FD := ⟨"_law_take", ["draw", "amount", "found"], 2, c__law_take f__law_mixed⟩
def c__law_pick (f__law_take : Nat) : IB := (.cons (.ret (.ix (.var 1) (.cal f__law_take (.cons (.var 0) (.cons (.prm .len (.cons (.var 1) .nil)) .nil))))) .nil)
def d__law_pick (f__law_take : Nat) : FD := ⟨"_law_pick", ["draw", "some"], 2, c__law_pick f__law_take⟩
def c__law_shuffled (f__law_take : Nat) : IB := (.cons (.par 2 3 true true (.prm .list (.cons (.var 1) .nil)) (.lst .nil)) (.cons (.whl (.cmp .ne (.bvar 2) (.lst .nil)) (.cons (.appP 3 2 (.cal f__law_take (.cons (.var 0) (.cons (.prm .len (.cons (.bvar 2) .nil)) .nil)))) .nil)) (.cons (.frz 3) (.cons (.ret (.var 3)) .nil))))
def d__law_shuffled (f__law_take : Nat) : FD := ⟨"_law_shuffled", ["draw", "some", "left", "found"], 2, c__law_shuffled f__law_take⟩
def c__law_common : IB := (.cons (.par 0 1 false false (.prm .abs (.cons (.var 0) .nil)) (.prm .abs (.cons (.var 1) .nil))) (.cons (.whl (.cmp .ne (.var 1) (.cst (.int 0))) (.cons (.par 0 1 false false (.var 1) (.bin .mod (.var 0) (.var 1))) .nil)) (.cons (.ret (.var 0)) .nil)))
def d__law_common : FD := ⟨"_law_common", ["one", "other"], 2, c__law_common⟩
def c__law_ratio (f__law_common : Nat) : IB := (.cons (.asg (.nm 2) (.ite (.cmp .gt (.var 1) (.cst (.int 0))) (.cal f__law_common (.cons (.var 0) (.cons (.var 1) .nil))) (.bin .sub (.cst (.int 0)) (.cal f__law_common (.cons (.var 0) (.cons (.var 1) .nil)))))) (.cons (.ret (.tup (.cons (.bin .fdiv (.var 0) (.var 2)) (.cons (.bin .fdiv (.var 1) (.var 2)) .nil)))) .nil))
def d__law_ratio (f__law_common : Nat) : FD := ⟨"_law_ratio", ["above", "below", "divisor"], 2, c__law_ratio f__law_common⟩
def c__law_plus (f__law_ratio : Nat) : IB := (.cons (.ret (.cal f__law_ratio (.cons (.bin .add (.bin .mul (.ix (.var 0) (.cst (.int 0))) (.ix (.var 1) (.cst (.int 1)))) (.bin .mul (.ix (.var 1) (.cst (.int 0))) (.ix (.var 0) (.cst (.int 1))))) (.cons (.bin .mul (.ix (.var 0) (.cst (.int 1))) (.ix (.var 1) (.cst (.int 1)))) .nil)))) .nil)
def d__law_plus (f__law_ratio : Nat) : FD := ⟨"_law_plus", ["one", "other"], 2, c__law_plus f__law_ratio⟩
def c__law_times (f__law_ratio : Nat) : IB := (.cons (.ret (.cal f__law_ratio (.cons (.bin .mul (.ix (.var 0) (.cst (.int 0))) (.ix (.var 1) (.cst (.int 0)))) (.cons (.bin .mul (.ix (.var 0) (.cst (.int 1))) (.ix (.var 1) (.cst (.int 1)))) .nil)))) .nil)
def d__law_times (f__law_ratio : Nat) : FD := ⟨"_law_times", ["one", "other"], 2, c__law_times f__law_ratio⟩
def c__law_above : IB := (.cons (.ret (.cmp .gt (.bin .mul (.ix (.var 0) (.cst (.int 0))) (.ix (.var 1) (.cst (.int 1)))) (.bin .mul (.ix (.var 1) (.cst (.int 0))) (.ix (.var 0) (.cst (.int 1)))))) .nil)
def d__law_above : FD := ⟨"_law_above", ["one", "other"], 2, c__law_above⟩
def c__law_minus (f__law_ratio : Nat) : IB := (.cons (.ret (.cal f__law_ratio (.cons (.bin .sub (.bin .mul (.ix (.var 0) (.cst (.int 0))) (.ix (.var 1) (.cst (.int 1)))) (.bin .mul (.ix (.var 1) (.cst (.int 0))) (.ix (.var 0) (.cst (.int 1))))) (.cons (.bin .mul (.ix (.var 0) (.cst (.int 1))) (.ix (.var 1) (.cst (.int 1)))) .nil)))) .nil)
def d__law_minus (f__law_ratio : Nat) : FD := ⟨"_law_minus", ["one", "other"], 2, c__law_minus f__law_ratio⟩
def c__law_says (f__law_kinds : Nat) : IB := (.cons (.ret (.and (.cmp .eq (.var 0) (.var 1)) (.cmp .eq (.cal f__law_kinds (.cons (.var 0) .nil)) (.cal f__law_kinds (.cons (.var 1) .nil))))) .nil)
def d__law_says (f__law_kinds : Nat) : FD := ⟨"_law_says", ["told", "due"], 2, c__law_says f__law_kinds⟩
def c__law_kinds : IB := (.cons (.par 1 2 true true (.lst .nil) (.lst (.cons (.var 0) .nil))) (.cons (.whl (.cmp .ne (.bvar 2) (.lst .nil)) (.cons (.pop 3 2) (.cons (.asg (.nm 4) (.ite (.isi (.var 3) [.tuple]) (.cst (.str "tuple")) (.ite (.isi (.var 3) [.list]) (.cst (.str "list")) (.ite (.isi (.var 3) [.dict]) (.cst (.str "dict")) (.ite (.isi (.var 3) [.bool]) (.cst (.str "bool")) (.cst (.str "other"))))))) (.cons (.app 1 (.var 4)) (.cons (.iff (.cmp .inn (.var 4) (.lst (.cons (.cst (.str "tuple")) (.cons (.cst (.str "list")) .nil)))) (.cons (.own 2 (.bin .add (.bvar 2) (.prm .list (.cons (.var 3) .nil)))) .nil) .nil) (.cons (.iff (.cmp .eq (.var 4) (.cst (.str "dict"))) (.cons (.own 2 .nev) .nil) .nil) .nil)))))) (.cons (.frz 1) (.cons (.ret (.var 1)) .nil))))
def d__law_kinds : FD := ⟨"_law_kinds", ["thing", "found", "line", "here", "kind", "key"], 1, c__law_kinds⟩
def c__law_is_number : IB := (.cons (.ret (.and (.isi (.var 0) [.int]) (.not (.isi (.var 0) [.bool])))) .nil)
def d__law_is_number : FD := ⟨"_law_is_number", ["thing"], 1, c__law_is_number⟩
def c__law_is_ratio (f__law_common f__law_is_number : Nat) : IB := (.cons (.iff (.or (.not (.isi (.var 0) [.tuple])) (.or (.cmp .ne (.prm .len (.cons (.var 0) .nil)) (.cst (.int 2))) (.or (.not (.cal f__law_is_number (.cons (.ix (.var 0) (.cst (.int 0))) .nil))) (.not (.cal f__law_is_number (.cons (.ix (.var 0) (.cst (.int 1))) .nil)))))) (.cons (.ret (.cst (.bl false))) .nil) .nil) (.cons (.ret (.and (.cmp .gt (.ix (.var 0) (.cst (.int 1))) (.cst (.int 0))) (.cmp .eq (.cal f__law_common (.cons (.ix (.var 0) (.cst (.int 0))) (.cons (.ix (.var 0) (.cst (.int 1))) .nil))) (.cst (.int 1))))) .nil))
def d__law_is_ratio (f__law_common f__law_is_number : Nat) : FD := ⟨"_law_is_ratio", ["thing"], 1, c__law_is_ratio f__law_common f__law_is_number⟩
def c__law_are_ratios (f__law_is_ratio : Nat) : IB := (.cons (.ret (.and (.isi (.var 0) [.tuple]) (.and (.cmp .eq (.prm .len (.cons (.var 0) .nil)) (.var 1)) (.cmp .eq (.cmp1 (.nm 2) (.seq (.var 0)) (.not (.cal f__law_is_ratio (.cons (.var 2) .nil))) (.cst (.int 1))) (.lst .nil))))) .nil)
def d__law_are_ratios (f__law_is_ratio : Nat) : FD := ⟨"_law_are_ratios", ["thing", "many", "one"], 2, c__law_are_ratios f__law_is_ratio⟩
def c__law_is_profile (f__law_above f__law_are_ratios f__law_minus f__law_plus f__law_times : Nat) : IB := (.cons (.iff (.or (.not (.isi (.var 0) [.tuple])) (.or (.cmp .eq (.var 0) (.tup .nil)) (.cmp .ne (.cmp1 (.nm 3) (.seq (.var 0)) (.not (.cal f__law_are_ratios (.cons (.var 3) (.cons (.cst (.int 3)) .nil)))) (.cst (.int 1))) (.lst .nil)))) (.cons (.ret (.cst (.bl false))) .nil) .nil) (.cons (.iff (.or (.cmp .ne (.ix (.ix (.var 0) (.cst (.int 0))) (.cst (.int 0))) (.tup (.cons (.cst (.int 0)) (.cons (.cst (.int 1)) .nil)))) (.or (.cmp .ne (.ix (.ix (.var 0) (.neg (.cst (.int 1)))) (.cst (.int 2))) (.tup (.cons (.cst (.int 1)) (.cons (.cst (.int 1)) .nil)))) (.or (.cmp .lt (.ix (.ix (.ix (.var 0) (.cst (.int 0))) (.cst (.int 2))) (.cst (.int 0))) (.cst (.int 0))) (.cal f__law_above (.cons (.ix (.ix (.var 0) (.neg (.cst (.int 1)))) (.cst (.int 0))) (.cons (.ix (.ix (.var 0) (.neg (.cst (.int 1)))) (.cst (.int 1))) .nil)))))) (.cons (.ret (.cst (.bl false))) .nil) .nil) (.cons (.for_ (.tp [(.nm 1), (.nm 2)]) (.zip (.var 0) (.slc (.var 0) (.cst (.int 1)) .nil)) (.cons (.iff (.or (.not (.cal f__law_above (.cons (.ix (.var 2) (.cst (.int 0))) (.cons (.ix (.var 1) (.cst (.int 0))) .nil)))) (.not (.cal f__law_above (.cons (.ix (.var 2) (.cst (.int 2))) (.cons (.ix (.var 1) (.cst (.int 2))) .nil))))) (.cons (.ret (.cst (.bl false))) .nil) .nil) (.cons (.iff (.cmp .ne (.ix (.var 2) (.cst (.int 1))) (.cal f__law_plus (.cons (.ix (.var 1) (.cst (.int 1))) (.cons (.cal f__law_times (.cons (.ix (.var 1) (.cst (.int 2))) (.cons (.cal f__law_minus (.cons (.ix (.var 2) (.cst (.int 0))) (.cons (.ix (.var 1) (.cst (.int 0))) .nil))) .nil))) .nil)))) (.cons (.ret (.cst (.bl false))) .nil) .nil) .nil))) (.cons (.ret (.cst (.bl true))) .nil))))
def d__law_is_profile (f__law_above f__law_are_ratios f__law_minus f__law_plus f__law_times : Nat) : FD := ⟨"_law_is_profile", ["thing", "one", "other", "triple"], 1, c__law_is_profile f__law_above f__law_are_ratios f__law_minus f__law_plus f__law_times⟩
def c__law_from_top (f__law_minus f__law_plus f__law_times : Nat) : IB := (.cons (.par 4 5 false false (.cal f__law_plus (.cons (.ix (.var 0) (.neg (.cst (.int 1)))) (.cons (.var 2) .nil))) (.lst .nil)) (.cons (.for_ (.nm 3) (.rng3 (.bin .sub (.prm .len (.cons (.var 0) .nil)) (.cst (.int 1))) (.neg (.cst (.int 1))) (.neg (.cst (.int 1)))) (.cons (.iff (.cmp .lt (.bin .add (.var 3) (.cst (.int 1))) (.prm .len (.cons (.var 0) .nil))) (.cons (.asg (.nm 4) (.cal f__law_minus (.cons (.var 4) (.cons (.cal f__law_times (.cons (.ix (.var 1) (.var 3)) (.cons (.cal f__law_minus (.cons (.ix (.var 0) (.bin .add (.var 3) (.cst (.int 1)))) (.cons (.ix (.var 0) (.var 3)) .nil))) .nil))) .nil)))) .nil) .nil) (.cons (.asg (.nm 5) (.bin .add (.lst (.cons (.tup (.cons (.ix (.var 0) (.var 3)) (.cons (.var 4) (.cons (.ix (.var 1) (.var 3)) .nil)))) .nil)) (.var 5))) .nil))) (.cons (.ret (.prm .tuple (.cons (.var 5) .nil))) .nil)))
def d__law_from_top (f__law_minus f__law_plus f__law_times : Nat) : FD := ⟨"_law_from_top", ["offers", "kept", "ahead", "at", "known", "found"], 3, c__law_from_top f__law_minus f__law_plus f__law_times⟩
def c__law_triples (f__law_from_top f__law_pick f__law_plus f__law_ratio f__law_shuffled f__law_take : Nat) : IB := (.cons (.asg (.nm 2) (.lst (.cons (.tup (.cons (.cst (.int 0)) (.cons (.cst (.int 1)) .nil))) (.cons (.tup (.cons (.cst (.int 1)) (.cons (.cst (.int 1000)) .nil))) (.cons (.tup (.cons (.cst (.int 1)) (.cons (.cst (.int 10)) .nil))) (.cons (.tup (.cons (.cst (.int 1)) (.cons (.cst (.int 5)) .nil))) (.cons (.tup (.cons (.cst (.int 1)) (.cons (.cst (.int 4)) .nil))) (.cons (.tup (.cons (.cst (.int 1)) (.cons (.cst (.int 3)) .nil))) (.cons (.tup (.cons (.cst (.int 1)) (.cons (.cst (.int 2)) .nil))) (.cons (.tup (.cons (.cst (.int 3)) (.cons (.cst (.int 5)) .nil))) (.cons (.tup (.cons (.cst (.int 2)) (.cons (.cst (.int 3)) .nil))) (.cons (.tup (.cons (.cst (.int 3)) (.cons (.cst (.int 4)) .nil))) (.cons (.tup (.cons (.cst (.int 9)) (.cons (.cst (.int 10)) .nil))) (.cons (.tup (.cons (.cst (.int 999)) (.cons (.cst (.int 1000)) .nil))) .nil)))))))))))))) (.cons (.asg (.nm 3) (.cal f__law_take (.cons (.var 0) (.cons (.var 1) .nil)))) (.cons (.asg (.nm 4) (.prm .sorted (.cons (.slc (.cal f__law_shuffled (.cons (.var 0) (.cons (.lrng (.prm .len (.cons (.var 2) .nil))) .nil))) .nil (.var 3)) .nil))) (.cons (.par 6 7 false true (.bin .add (.cmp1 (.nm 8) (.seq (.var 4)) .nil (.ix (.var 2) (.var 8))) (.lst (.cons (.tup (.cons (.cst (.int 1)) (.cons (.cst (.int 1)) .nil))) .nil))) (.lst (.cons (.tup (.cons (.cst (.int 0)) (.cons (.cst (.int 1)) .nil))) .nil))) (.cons (.for_ (.nm 5) (.rng1 (.var 3)) (.cons (.app 7 (.cal f__law_plus (.cons (.ix (.bvar 7) (.neg (.cst (.int 1)))) (.cons (.cal f__law_ratio (.cons (.bin .add (.cst (.int 1)) (.cal f__law_take (.cons (.var 0) (.cons (.cst (.int 30)) .nil)))) (.cons (.cal f__law_pick (.cons (.var 0) (.cons (.lst (.cons (.cst (.int 1)) (.cons (.cst (.int 1)) (.cons (.cst (.int 2)) (.cons (.cst (.int 7)) .nil))))) .nil))) .nil))) .nil)))) .nil)) (.cons (.frz 7) (.cons (.ret (.cal f__law_from_top (.cons (.var 7) (.cons (.var 6) (.cons (.cal f__law_pick (.cons (.var 0) (.cons (.lst (.cons (.tup (.cons (.cst (.int 0)) (.cons (.cst (.int 1)) .nil))) (.cons (.tup (.cons (.cst (.int 0)) (.cons (.cst (.int 1)) .nil))) (.cons (.tup (.cons (.cst (.int 1)) (.cons (.cst (.int 2)) .nil))) (.cons (.tup (.cons (.cst (.int 7)) (.cons (.cst (.int 1)) .nil))) .nil))))) .nil))) .nil))))) .nil)))))))
def d__law_triples (f__law_from_top f__law_pick f__law_plus f__law_ratio f__law_shuffled f__law_take : Nat) : FD := ⟨"_law_triples", ["draw", "most", "some", "many", "places", "lap", "kept", "offers", "place"], 2, c__law_triples f__law_from_top f__law_pick f__law_plus f__law_ratio f__law_shuffled f__law_take⟩
def c__law_figures : IB := (.cons (.asg (.nm 1) (.ite (.cmp .eq (.slc (.var 0) .nil (.cst (.int 1))) (.cst (.str "-"))) (.slc (.var 0) (.cst (.int 1)) .nil) (.var 0))) (.cons (.iff (.or (.not (.chn .le .le (.cst (.int 1)) (.prm .len (.cons (.var 1) .nil)) (.cst (.int 9)))) (.or (.cmp .ne (.cmp1 (.nm 2) (.chr (.var 1)) (.cmp .nin (.var 2) (.cst (.str "0123456789"))) (.var 2)) (.lst .nil)) (.and (.cmp .eq (.ix (.var 1) (.cst (.int 0))) (.cst (.str "0"))) (.cmp .ne (.var 0) (.cst (.str "0")))))) (.cons (.ret (.cst .non)) .nil) .nil) (.cons (.ret (.prm .int (.cons (.var 0) .nil))) .nil)))
def d__law_figures : FD := ⟨"_law_figures", ["word", "figures", "sign"], 1, c__law_figures⟩
def c__law_ratio_word : IB := (.cons (.ret (.bin .add (.prm .str (.cons (.ix (.var 0) (.cst (.int 0))) .nil)) (.ite (.cmp .eq (.ix (.var 0) (.cst (.int 1))) (.cst (.int 1))) (.cst (.str "")) (.bin .add (.cst (.str "/")) (.prm .str (.cons (.ix (.var 0) (.cst (.int 1))) .nil)))))) .nil)
def d__law_ratio_word : FD := ⟨"_law_ratio_word", ["one"], 1, c__law_ratio_word⟩
def c__law_ratio_of (f__law_figures f__law_is_ratio f__law_ratio_word : Nat) : IB := (.cons (.asg (.nm 1) (.cmp1 (.nm 3) (.seq (.mth .split (.var 0) (.cst (.str "/")))) .nil (.cal f__law_figures (.cons (.var 3) .nil)))) (.cons (.iff (.or (.cmp .inn (.cst .non) (.var 1)) (.cmp .gt (.prm .len (.cons (.var 1) .nil)) (.cst (.int 2)))) (.cons (.ret (.cst .non)) .nil) .nil) (.cons (.asg (.nm 2) (.tup (.cons (.ix (.var 1) (.cst (.int 0))) (.cons (.ite (.cmp .eq (.prm .len (.cons (.var 1) .nil)) (.cst (.int 2))) (.ix (.var 1) (.cst (.int 1))) (.cst (.int 1))) .nil)))) (.cons (.ret (.ite (.and (.cal f__law_is_ratio (.cons (.var 2) .nil)) (.cmp .eq (.cal f__law_ratio_word (.cons (.var 2) .nil)) (.var 0))) (.var 2) (.cst .non))) .nil))))
def d__law_ratio_of (f__law_figures f__law_is_ratio f__law_ratio_word : Nat) : FD := ⟨"_law_ratio_of", ["word", "some", "found", "part"], 1, c__law_ratio_of f__law_figures f__law_is_ratio f__law_ratio_word⟩
def c__law_line (f__law_ratio_word : Nat) : IB := (.cons (.ret (.mth .join (.cst (.str " ")) (.cmp1 (.nm 1) (.seq (.var 0)) .nil (.mth .join (.cst (.str ",")) (.cmp1 (.nm 2) (.seq (.var 1)) .nil (.cal f__law_ratio_word (.cons (.var 2) .nil))))))) .nil)
def d__law_line (f__law_ratio_word : Nat) : FD := ⟨"_law_line", ["triples", "triple", "one"], 1, c__law_line f__law_ratio_word⟩
def c__law_is_short : IB := (.cons (.for_ (.nm 1) (.seq (.var 0)) (.cons (.iff (.cmp .ne (.cmp1 (.tp [(.nm 2), (.nm 3)]) (.seq (.var 1)) (.or (.cmp .gt (.prm .abs (.cons (.var 2) .nil)) (.cst (.int 999999999))) (.cmp .gt (.var 3) (.cst (.int 999999999)))) (.cst (.int 1))) (.lst .nil)) (.cons (.ret (.cst (.bl false))) .nil) .nil) .nil)) (.cons (.ret (.cst (.bl true))) .nil))
def d__law_is_short : FD := ⟨"_law_is_short", ["triples", "triple", "up", "down"], 1, c__law_is_short⟩
def c__law_bent (f__law_pick f__law_take : Nat) : IB := (.cons (.par 4 5 false false (.cal f__law_take (.cons (.var 0) (.cons (.bin .add (.prm .len (.cons (.var 1) .nil)) (.cst (.int 1))) .nil))) (.mth .split (.var 1) (.cst (.str " ")))) (.cons (.asg (.nm 2) (.cal f__law_take (.cons (.var 0) (.cons (.prm .len (.cons (.var 5) .nil)) .nil)))) (.cons (.asg (.nm 3) (.lst (.cons (.bin .add (.bin .add (.slc (.var 1) .nil (.var 4)) (.cal f__law_pick (.cons (.var 0) (.cons (.lst (.cons (.cst (.str "0")) (.cons (.cst (.str "1")) (.cons (.cst (.str "-")) (.cons (.cst (.str " ")) (.cons (.cst (.str ",")) (.cons (.cst (.str "/")) (.cons (.cst (.str "x")) .nil)))))))) .nil)))) (.slc (.var 1) (.var 4) .nil)) (.cons (.bin .add (.slc (.var 1) .nil (.var 4)) (.slc (.var 1) (.bin .add (.var 4) (.cst (.int 1))) .nil)) (.cons (.bin .add (.bin .add (.slc (.var 1) .nil (.var 4)) (.cal f__law_pick (.cons (.var 0) (.cons (.lst (.cons (.cst (.str "0")) (.cons (.cst (.str "7")) (.cons (.cst (.str " ")) (.cons (.cst (.str "/")) (.cons (.cst (.str "-")) (.cons (.cst (.str ",")) .nil))))))) .nil)))) (.slc (.var 1) (.bin .add (.var 4) (.cst (.int 1))) .nil)) .nil))))) (.cons (.asg (.nm 3) (.bin .add (.var 3) (.lst (.cons (.mth .join (.cst (.str " ")) (.bin .add (.slc (.var 5) .nil (.var 2)) (.slc (.var 5) (.bin .add (.var 2) (.cst (.int 1))) .nil))) (.cons (.mth .join (.cst (.str " ")) (.bin .add (.var 5) (.slc (.var 5) .nil (.cst (.int 1))))) (.cons (.mth .join (.cst (.str " ")) (.rev (.var 5))) (.cons (.bin .add (.var 1) (.cst (.str " "))) (.cons (.bin .add (.cst (.str " ")) (.var 1)) (.cons (.cst (.str "")) (.cons (.cst (.str "0,0,1")) (.cons (.cst (.str "0,0,1 ")) (.cons (.cst (.str "0,-1,1")) (.cons (.cst (.str "0,2/2,1")) (.cons (.cst (.str "00,0,1")) .nil)))))))))))))) (.cons (.ret (.cal f__law_pick (.cons (.var 0) (.cons (.var 3) .nil)))) .nil)))))
def d__law_bent (f__law_pick f__law_take : Nat) : FD := ⟨"_law_bent", ["draw", "text", "place", "some", "at", "words"], 2, c__law_bent f__law_pick f__law_take⟩
def c__law_is_read (C_BadText a_line f__law_is_profile f__law_ratio_of f__law_says f_profile_text f_read_profile : Nat) : IB := (.cons (.asg (.nm 1) (.prm .tuple (.cons (.cmp1 (.nm 3) (.seq (.mth .split (.var 0) (.cst (.str " ")))) .nil (.prm .tuple (.cons (.cmp1 (.nm 4) (.seq (.mth .split (.var 3) (.cst (.str ",")))) .nil (.cal f__law_ratio_of (.cons (.var 4) .nil))) .nil))) .nil))) (.cons (.iff (.not (.cal f__law_is_profile (.cons (.var 1) .nil))) (.cons (.asg (.nm 2) (.cau (.cal f_read_profile (.cons (.var 0) .nil)))) (.cons (.ret (.and (.isi (.var 2) [.own C_BadText]) (.cmp .is (.fld (.var 2) a_line) (.cst .non)))) .nil)) .nil) (.cons (.ret (.and (.cal f__law_says (.cons (.calk f_read_profile .nil (.cons (.var 0) .nil)) (.cons (.var 1) .nil))) (.cmp .eq (.cal f_profile_text (.cons (.var 1) .nil)) (.var 0)))) .nil)))
def d__law_is_read (C_BadText a_line f__law_is_profile f__law_ratio_of f__law_says f_profile_text f_read_profile : Nat) : FD := ⟨"_law_is_read", ["text", "due", "caught", "word", "part"], 1, c__law_is_read C_BadText a_line f__law_is_profile f__law_ratio_of f__law_says f_profile_text f_read_profile⟩
def c_law_k71 (C_BadProfile C_BadText a_line f__law_bent f__law_from_top f__law_is_read f__law_is_short f__law_line f__law_pick f__law_says f__law_triples f_profile_text f_read_profile : Nat) : IB := (.cons (.for_ (.nm 2) (.rng1 (.bin .add (.cst (.int 4)) (.prm .min2 (.cons (.prm .len (.cons (.var 0) .nil)) (.cons (.cst (.int 6)) .nil))))) (.cons (.asg (.nm 6) (.cal f__law_triples (.cons (.var 1) (.cons (.cal f__law_pick (.cons (.var 1) (.cons (.lst (.cons (.cst (.int 2)) (.cons (.cst (.int 4)) (.cons (.cst (.int 9)) .nil)))) .nil))) .nil)))) (.cons (.iff (.not (.cal f__law_is_short (.cons (.var 6) .nil))) (.cons (.iff (.not (.isi (.cau (.cal f_profile_text (.cons (.var 6) .nil))) [.own C_BadProfile])) (.cons (.ret (.cst (.bl false))) .nil) .nil) (.cons (.asg (.nm 6) (.cal f__law_from_top (.cons (.lst (.cons (.tup (.cons (.cst (.int 0)) (.cons (.cst (.int 1)) .nil))) (.cons (.tup (.cons (.cst (.int 2)) (.cons (.cst (.int 1)) .nil))) .nil))) (.cons (.lst (.cons (.tup (.cons (.cst (.int 1)) (.cons (.cst (.int 2)) .nil))) (.cons (.tup (.cons (.cst (.int 1)) (.cons (.cst (.int 1)) .nil))) .nil))) (.cons (.tup (.cons (.cst (.int 1)) (.cons (.cst (.int 3)) .nil))) .nil))))) .nil)) .nil) (.cons (.asg (.nm 7) (.cal f__law_line (.cons (.var 6) .nil))) (.cons (.iff (.or (.not (.cal f__law_says (.cons (.lst (.cons (.cal f_profile_text (.cons (.var 6) .nil)) (.cons (.calk f_profile_text .nil (.cons (.var 6) .nil)) .nil))) (.cons (.lst (.cons (.var 7) (.cons (.var 7) .nil))) .nil)))) (.not (.cal f__law_is_read (.cons (.var 7) .nil)))) (.cons (.ret (.cst (.bl false))) .nil) .nil) (.cons (.for_ (.nm 8) (.rng1 (.cst (.int 8))) (.cons (.iff (.not (.cal f__law_is_read (.cons (.cal f__law_bent (.cons (.var 1) (.cons (.var 7) .nil))) .nil))) (.cons (.ret (.cst (.bl false))) .nil) .nil) .nil)) .nil)))))) (.cons (.asg (.nm 3) (.cal f__law_pick (.cons (.var 1) (.cons (.lst (.cons (.tup (.cons (.cst (.int 1000000000)) (.cons (.cst (.int 1)) .nil))) (.cons (.tup (.cons (.cst (.int 1)) (.cons (.cst (.int 1000000000)) .nil))) (.cons (.tup (.cons (.cst (.int 1999999999)) (.cons (.cst (.int 2)) .nil))) .nil)))) .nil)))) (.cons (.asg (.nm 4) (.cal f__law_pick (.cons (.var 1) (.cons (.lst (.cons (.tup (.cons (.tup (.cons (.tup (.cons (.cst (.int 0)) (.cons (.cst (.int 1)) .nil))) (.cons (.var 3) (.cons (.tup (.cons (.cst (.int 1)) (.cons (.cst (.int 1)) .nil))) .nil)))) .nil)) (.cons (.tup (.cons (.tup (.cons (.tup (.cons (.cst (.int 0)) (.cons (.cst (.int 1)) .nil))) (.cons (.var 3) (.cons (.tup (.cons (.cst (.int 0)) (.cons (.cst (.int 1)) .nil))) .nil)))) (.cons (.tup (.cons (.var 3) (.cons (.var 3) (.cons (.tup (.cons (.cst (.int 1)) (.cons (.cst (.int 1)) .nil))) .nil)))) .nil))) (.cons (.cst .non) (.cons (.tup .nil) (.cons (.prm .list (.cons (.var 6) .nil)) (.cons (.var 7) (.cons (.bin .add (.var 6) (.slc (.var 6) .nil (.cst (.int 1)))) .nil)))))))) .nil)))) (.cons (.iff (.not (.isi (.cau (.cal f_profile_text (.cons (.var 4) .nil))) [.own C_BadProfile])) (.cons (.ret (.cst (.bl false))) .nil) .nil) (.cons (.asg (.nm 5) (.cau (.cal f_read_profile (.cons (.cal f__law_pick (.cons (.var 1) (.cons (.lst (.cons (.cst .non) (.cons (.cst (.int 5)) (.cons (.lst (.cons (.var 7) .nil)) (.cons (.var 6) .nil))))) .nil))) .nil)))) (.cons (.ret (.and (.isi (.var 5) [.own C_BadText]) (.and (.cmp .is (.fld (.var 5) a_line) (.cst .non)) (.cmp .eq (.cal f_profile_text (.cons (.tup (.cons (.tup (.cons (.tup (.cons (.cst (.int 0)) (.cons (.cst (.int 1)) .nil))) (.cons (.tup (.cons (.cst (.int 6)) (.cons (.cst (.int 1)) .nil))) (.cons (.tup (.cons (.cst (.int 0)) (.cons (.cst (.int 1)) .nil))) .nil)))) (.cons (.tup (.cons (.tup (.cons (.cst (.int 6)) (.cons (.cst (.int 1)) .nil))) (.cons (.tup (.cons (.cst (.int 6)) (.cons (.cst (.int 1)) .nil))) (.cons (.tup (.cons (.cst (.int 1)) (.cons (.cst (.int 1)) .nil))) .nil)))) .nil))) .nil)) (.cst (.str "0,6,0 6,6,1")))))) .nil))))))
def d_law_k71 (C_BadProfile C_BadText a_line f__law_bent f__law_from_top f__law_is_read f__law_is_short f__law_line f__law_pick f__law_says f__law_triples f_profile_text f_read_profile : Nat) : FD := ⟨"law", ["script", "draw", "turn", "far", "odd", "caught", "triples", "text", "lap"], 1, c_law_k71 C_BadProfile C_BadText a_line f__law_bent f__law_from_top f__law_is_read f__law_is_short f__law_line f__law_pick f__law_says f__law_triples f_profile_text f_read_profile⟩
end BA.Li
/-! K71r -/
set_option Elab.async false
set_option linter.all false
set_option maxRecDepth 100000
set_option maxHeartbeats 0
/-! K71: the law's own data (printed by genlaw.py). -/
namespace BA.Ga
open PySem BA
def cls : List Str := ["StopError", "BadText", "BadProfile"]
def fldN : List Str := ["line"]
def T : Tab := ⟨[("FIGURES", (.str "0123456789")), ("MOST_FIGURES", (.int 9)), ("BEYOND", (.int 1000000000)), ("NONE", (.tup [(.int 0), (.int 1)])), ("ALL", (.tup [(.int 1), (.int 1)]))], [(0, 0), (1, 1), (1, 0), (2, 2), (2, 0)], [[], [0], []], [true, true, true]⟩
def nm0 : List (Str × List Str) := [("is_number", ["thing"]), ("divisor_of", ["numbers"]), ("ratio_of", ["above", "below"]), ("is_ratio", ["thing"]), ("sum_of", ["one", "other"]), ("less_of", ["one", "other"]), ("product_of", ["one", "other"]), ("is_below", ["one", "other"]), ("is_short", ["number"]), ("number_from", ["word"]), ("numbers_from", ["words"]), ("ratio_word", ["ratio"])]
def nm1 : List (Str × List Str) := [("ratio_from", ["word"]), ("is_short_ratio", ["thing"]), ("is_triple", ["thing"]), ("goes_on", ["one", "other"]), ("is_profile_of", ["thing"]), ("triple_from", ["word"]), ("profile_line", ["profile"]), ("profile_text", ["profile"]), ("read_profile", ["text"]), ("_law_mixed", ["draw"]), ("_law_take", ["draw", "amount"]), ("_law_pick", ["draw", "some"])]
def nm2 : List (Str × List Str) := [("_law_shuffled", ["draw", "some"]), ("_law_common", ["one", "other"]), ("_law_ratio", ["above", "below"]), ("_law_plus", ["one", "other"]), ("_law_times", ["one", "other"]), ("_law_above", ["one", "other"]), ("_law_minus", ["one", "other"]), ("_law_says", ["told", "due"]), ("_law_kinds", ["thing"]), ("_law_is_number", ["thing"]), ("_law_is_ratio", ["thing"]), ("_law_are_ratios", ["thing", "many"])]
def nm3 : List (Str × List Str) := [("_law_is_profile", ["thing"]), ("_law_from_top", ["offers", "kept", "ahead"]), ("_law_triples", ["draw", "most"]), ("_law_figures", ["word"]), ("_law_ratio_word", ["one"]), ("_law_ratio_of", ["word"]), ("_law_line", ["triples"]), ("_law_is_short", ["triples"]), ("_law_bent", ["draw", "text"]), ("_law_is_read", ["text"])]
def nm : NM := ⟨nm0 ++ nm1 ++ nm2 ++ nm3, fldN, cls⟩
abbrev pw : PySem.Program := PySem.Challenge.pw_bestatall_k71_whole_texts_of_profiles
def top (i : Nat) : Stmt := pw.main.body.getD i (.Pass ⟨0, 0, 0, 0⟩)
def D_is_number : He.DefD := ⟨("is_number", none), "is_number", "is_number", L2.defArgs (top 5), L2.defBody (top 5), L2.defScope (top 5), [], []⟩
def D_divisor_of : He.DefD := ⟨("divisor_of", none), "divisor_of", "divisor_of", L2.defArgs (top 6), L2.defBody (top 6), L2.defScope (top 6), [], []⟩
def D_ratio_of : He.DefD := ⟨("ratio_of", none), "ratio_of", "ratio_of", L2.defArgs (top 8), L2.defBody (top 8), L2.defScope (top 8), [], []⟩
def D_is_ratio : He.DefD := ⟨("is_ratio", none), "is_ratio", "is_ratio", L2.defArgs (top 9), L2.defBody (top 9), L2.defScope (top 9), [], []⟩
def D_sum_of : He.DefD := ⟨("sum_of", none), "sum_of", "sum_of", L2.defArgs (top 10), L2.defBody (top 10), L2.defScope (top 10), [], []⟩
def D_less_of : He.DefD := ⟨("less_of", none), "less_of", "less_of", L2.defArgs (top 11), L2.defBody (top 11), L2.defScope (top 11), [], []⟩
def D_product_of : He.DefD := ⟨("product_of", none), "product_of", "product_of", L2.defArgs (top 12), L2.defBody (top 12), L2.defScope (top 12), [], []⟩
def D_is_below : He.DefD := ⟨("is_below", none), "is_below", "is_below", L2.defArgs (top 13), L2.defBody (top 13), L2.defScope (top 13), [], []⟩
def D_is_short : He.DefD := ⟨("is_short", none), "is_short", "is_short", L2.defArgs (top 18), L2.defBody (top 18), L2.defScope (top 18), [], []⟩
def D_number_from : He.DefD := ⟨("number_from", none), "number_from", "number_from", L2.defArgs (top 19), L2.defBody (top 19), L2.defScope (top 19), [], []⟩
def D_numbers_from : He.DefD := ⟨("numbers_from", none), "numbers_from", "numbers_from", L2.defArgs (top 20), L2.defBody (top 20), L2.defScope (top 20), [], []⟩
def D_ratio_word : He.DefD := ⟨("ratio_word", none), "ratio_word", "ratio_word", L2.defArgs (top 21), L2.defBody (top 21), L2.defScope (top 21), [], []⟩
def D_ratio_from : He.DefD := ⟨("ratio_from", none), "ratio_from", "ratio_from", L2.defArgs (top 22), L2.defBody (top 22), L2.defScope (top 22), [], []⟩
def D_is_short_ratio : He.DefD := ⟨("is_short_ratio", none), "is_short_ratio", "is_short_ratio", L2.defArgs (top 23), L2.defBody (top 23), L2.defScope (top 23), [], []⟩
def D_is_triple : He.DefD := ⟨("is_triple", none), "is_triple", "is_triple", L2.defArgs (top 27), L2.defBody (top 27), L2.defScope (top 27), [], []⟩
def D_goes_on : He.DefD := ⟨("goes_on", none), "goes_on", "goes_on", L2.defArgs (top 28), L2.defBody (top 28), L2.defScope (top 28), [], []⟩
def D_is_profile_of : He.DefD := ⟨("is_profile_of", none), "is_profile_of", "is_profile_of", L2.defArgs (top 29), L2.defBody (top 29), L2.defScope (top 29), [], []⟩
def D_triple_from : He.DefD := ⟨("triple_from", none), "triple_from", "triple_from", L2.defArgs (top 31), L2.defBody (top 31), L2.defScope (top 31), [], []⟩
def D_profile_line : He.DefD := ⟨("profile_line", none), "profile_line", "profile_line", L2.defArgs (top 32), L2.defBody (top 32), L2.defScope (top 32), [], []⟩
def D_profile_text : He.DefD := ⟨("profile_text", none), "profile_text", "profile_text", L2.defArgs (top 33), L2.defBody (top 33), L2.defScope (top 33), [], []⟩
def D_read_profile : He.DefD := ⟨("read_profile", none), "read_profile", "read_profile", L2.defArgs (top 34), L2.defBody (top 34), L2.defScope (top 34), [], []⟩
def D__law_mixed : He.DefD := ⟨("_law_mixed", none), "_law_mixed", "_law_mixed", L2.defArgs (top 37), L2.defBody (top 37), L2.defScope (top 37), [], []⟩
def D__law_take : He.DefD := ⟨("_law_take", none), "_law_take", "_law_take", L2.defArgs (top 38), L2.defBody (top 38), L2.defScope (top 38), [], []⟩
def D__law_pick : He.DefD := ⟨("_law_pick", none), "_law_pick", "_law_pick", L2.defArgs (top 39), L2.defBody (top 39), L2.defScope (top 39), [], []⟩
def D__law_shuffled : He.DefD := ⟨("_law_shuffled", none), "_law_shuffled", "_law_shuffled", L2.defArgs (top 40), L2.defBody (top 40), L2.defScope (top 40), [], []⟩
def D__law_common : He.DefD := ⟨("_law_common", none), "_law_common", "_law_common", L2.defArgs (top 42), L2.defBody (top 42), L2.defScope (top 42), [], []⟩
def D__law_ratio : He.DefD := ⟨("_law_ratio", none), "_law_ratio", "_law_ratio", L2.defArgs (top 43), L2.defBody (top 43), L2.defScope (top 43), [], []⟩
def D__law_plus : He.DefD := ⟨("_law_plus", none), "_law_plus", "_law_plus", L2.defArgs (top 44), L2.defBody (top 44), L2.defScope (top 44), [], []⟩
def D__law_times : He.DefD := ⟨("_law_times", none), "_law_times", "_law_times", L2.defArgs (top 45), L2.defBody (top 45), L2.defScope (top 45), [], []⟩
def D__law_above : He.DefD := ⟨("_law_above", none), "_law_above", "_law_above", L2.defArgs (top 46), L2.defBody (top 46), L2.defScope (top 46), [], []⟩
def D__law_minus : He.DefD := ⟨("_law_minus", none), "_law_minus", "_law_minus", L2.defArgs (top 47), L2.defBody (top 47), L2.defScope (top 47), [], []⟩
def D__law_says : He.DefD := ⟨("_law_says", none), "_law_says", "_law_says", L2.defArgs (top 48), L2.defBody (top 48), L2.defScope (top 48), [], []⟩
def D__law_kinds : He.DefD := ⟨("_law_kinds", none), "_law_kinds", "_law_kinds", L2.defArgs (top 49), L2.defBody (top 49), L2.defScope (top 49), [], []⟩
def D__law_is_number : He.DefD := ⟨("_law_is_number", none), "_law_is_number", "_law_is_number", L2.defArgs (top 50), L2.defBody (top 50), L2.defScope (top 50), [], []⟩
def D__law_is_ratio : He.DefD := ⟨("_law_is_ratio", none), "_law_is_ratio", "_law_is_ratio", L2.defArgs (top 51), L2.defBody (top 51), L2.defScope (top 51), [], []⟩
def D__law_are_ratios : He.DefD := ⟨("_law_are_ratios", none), "_law_are_ratios", "_law_are_ratios", L2.defArgs (top 52), L2.defBody (top 52), L2.defScope (top 52), [], []⟩
def D__law_is_profile : He.DefD := ⟨("_law_is_profile", none), "_law_is_profile", "_law_is_profile", L2.defArgs (top 53), L2.defBody (top 53), L2.defScope (top 53), [], []⟩
def D__law_from_top : He.DefD := ⟨("_law_from_top", none), "_law_from_top", "_law_from_top", L2.defArgs (top 54), L2.defBody (top 54), L2.defScope (top 54), [], []⟩
def D__law_triples : He.DefD := ⟨("_law_triples", none), "_law_triples", "_law_triples", L2.defArgs (top 55), L2.defBody (top 55), L2.defScope (top 55), [], []⟩
def D__law_figures : He.DefD := ⟨("_law_figures", none), "_law_figures", "_law_figures", L2.defArgs (top 56), L2.defBody (top 56), L2.defScope (top 56), [], []⟩
def D__law_ratio_word : He.DefD := ⟨("_law_ratio_word", none), "_law_ratio_word", "_law_ratio_word", L2.defArgs (top 57), L2.defBody (top 57), L2.defScope (top 57), [], []⟩
def D__law_ratio_of : He.DefD := ⟨("_law_ratio_of", none), "_law_ratio_of", "_law_ratio_of", L2.defArgs (top 58), L2.defBody (top 58), L2.defScope (top 58), [], []⟩
def D__law_line : He.DefD := ⟨("_law_line", none), "_law_line", "_law_line", L2.defArgs (top 59), L2.defBody (top 59), L2.defScope (top 59), [], []⟩
def D__law_is_short : He.DefD := ⟨("_law_is_short", none), "_law_is_short", "_law_is_short", L2.defArgs (top 60), L2.defBody (top 60), L2.defScope (top 60), [], []⟩
def D__law_bent : He.DefD := ⟨("_law_bent", none), "_law_bent", "_law_bent", L2.defArgs (top 61), L2.defBody (top 61), L2.defScope (top 61), [], []⟩
def D__law_is_read : He.DefD := ⟨("_law_is_read", none), "_law_is_read", "_law_is_read", L2.defArgs (top 62), L2.defBody (top 62), L2.defScope (top 62), [], []⟩
def D_law : He.DefD := ⟨("law", none), "law", "law", L2.defArgs (top 63), L2.defBody (top 63), L2.defScope (top 63), [], []⟩
def D__law_begun : He.DefD := ⟨("_law_begun", none), "_law_begun", "_law_begun", L2.defArgs (top 36), L2.defBody (top 36), L2.defScope (top 36), [], []⟩
def D__law_caught : He.DefD := ⟨("_law_caught", none), "_law_caught", "_law_caught", L2.defArgs (top 41), L2.defBody (top 41), L2.defScope (top 41), [], []⟩
def d_is_number : FD := Li.d_is_number
def d_divisor_of : FD := Li.d_divisor_of
def d_ratio_of : FD := Li.d_ratio_of 1
def d_is_ratio : FD := Li.d_is_ratio 1 0
def d_sum_of : FD := Li.d_sum_of 2
def d_less_of : FD := Li.d_less_of 2
def d_product_of : FD := Li.d_product_of 2
def d_is_below : FD := Li.d_is_below
def d_is_short : FD := Li.d_is_short 2
def d_number_from : FD := Li.d_number_from 0 1
def d_numbers_from : FD := Li.d_numbers_from 9
def d_ratio_word : FD := Li.d_ratio_word
def d_ratio_from : FD := Li.d_ratio_from 3 10 11
def d_is_short_ratio : FD := Li.d_is_short_ratio 3 8
def d_is_triple : FD := Li.d_is_triple 3
def d_goes_on : FD := Li.d_goes_on 7 5 6 4
def d_is_profile_of : FD := Li.d_is_profile_of 15 7 14 4 3
def d_triple_from : FD := Li.d_triple_from 12
def d_profile_line : FD := Li.d_profile_line 11
def d_profile_text : FD := Li.d_profile_text 2 16 13 18
def d_read_profile : FD := Li.d_read_profile 1 16 17
def d__law_mixed : FD := Li.d__law_mixed
def d__law_take : FD := Li.d__law_take 21
def d__law_pick : FD := Li.d__law_pick 22
def d__law_shuffled : FD := Li.d__law_shuffled 22
def d__law_common : FD := Li.d__law_common
def d__law_ratio : FD := Li.d__law_ratio 25
def d__law_plus : FD := Li.d__law_plus 26
def d__law_times : FD := Li.d__law_times 26
def d__law_above : FD := Li.d__law_above
def d__law_minus : FD := Li.d__law_minus 26
def d__law_says : FD := Li.d__law_says 32
def d__law_kinds : FD := Li.d__law_kinds
def d__law_is_number : FD := Li.d__law_is_number
def d__law_is_ratio : FD := Li.d__law_is_ratio 25 33
def d__law_are_ratios : FD := Li.d__law_are_ratios 34
def d__law_is_profile : FD := Li.d__law_is_profile 29 35 30 27 28
def d__law_from_top : FD := Li.d__law_from_top 30 27 28
def d__law_triples : FD := Li.d__law_triples 37 23 27 26 24 22
def d__law_figures : FD := Li.d__law_figures
def d__law_ratio_word : FD := Li.d__law_ratio_word
def d__law_ratio_of : FD := Li.d__law_ratio_of 39 34 40
def d__law_line : FD := Li.d__law_line 40
def d__law_is_short : FD := Li.d__law_is_short
def d__law_bent : FD := Li.d__law_bent 23 22
def d__law_is_read : FD := Li.d__law_is_read 1 0 36 41 31 19 20
def c_law : IB := Li.c_law_k71 2 1 0 44 37 45 43 42 23 31 38 19 20
def d_law : FD := Li.d_law_k71 2 1 0 44 37 45 43 42 23 31 38 19 20
def code0 : List (FD × Bool) := [(d_is_number, false), (d_divisor_of, false), (d_ratio_of, false), (d_is_ratio, false), (d_sum_of, false), (d_less_of, false), (d_product_of, false), (d_is_below, false), (d_is_short, false), (d_number_from, false), (d_numbers_from, false), (d_ratio_word, false), (d_ratio_from, false), (d_is_short_ratio, false), (d_is_triple, false), (d_goes_on, false), (d_is_profile_of, false), (d_triple_from, false), (d_profile_line, false), (d_profile_text, false)]
def code1 : List (FD × Bool) := [(d_read_profile, false), (d__law_mixed, false), (d__law_take, false), (d__law_pick, false), (d__law_shuffled, false), (d__law_common, false), (d__law_ratio, false), (d__law_plus, false), (d__law_times, false), (d__law_above, false), (d__law_minus, false), (d__law_says, false), (d__law_kinds, false), (d__law_is_number, false), (d__law_is_ratio, false), (d__law_are_ratios, false), (d__law_is_profile, false), (d__law_from_top, false), (d__law_triples, false), (d__law_figures, false)]
def code2 : List (FD × Bool) := [(d__law_ratio_word, false), (d__law_ratio_of, false), (d__law_line, false), (d__law_is_short, false), (d__law_bent, false), (d__law_is_read, true)]
def dsl0 : List (He.DefD) := [D_is_number, D_divisor_of, D_ratio_of, D_is_ratio, D_sum_of, D_less_of, D_product_of, D_is_below, D_is_short, D_number_from, D_numbers_from, D_ratio_word, D_ratio_from, D_is_short_ratio, D_is_triple, D_goes_on, D_is_profile_of, D_triple_from, D_profile_line, D_profile_text]
def dsl1 : List (He.DefD) := [D_read_profile, D__law_mixed, D__law_take, D__law_pick, D__law_shuffled, D__law_common, D__law_ratio, D__law_plus, D__law_times, D__law_above, D__law_minus, D__law_says, D__law_kinds, D__law_is_number, D__law_is_ratio, D__law_are_ratios, D__law_is_profile, D__law_from_top, D__law_triples, D__law_figures]
def dsl2 : List (He.DefD) := [D__law_ratio_word, D__law_ratio_of, D__law_line, D__law_is_short, D__law_bent, D__law_is_read]
def Dt : Dat := ⟨pw, nm, T, code0 ++ code1 ++ code2, dsl0 ++ dsl1 ++ dsl2, ["_law_is_read", "law"]⟩
def ln0 : List (PySem.Str) := ["StopError", "BadText", "BadProfile", "is_number", "divisor_of", "ratio_of", "is_ratio", "sum_of", "less_of", "product_of", "is_below", "FIGURES", "MOST_FIGURES", "BEYOND", "is_short", "number_from", "numbers_from", "ratio_word", "ratio_from", "is_short_ratio"]
def ln1 : List (PySem.Str) := ["NONE", "ALL", "is_triple", "goes_on", "is_profile_of", "triple_from", "profile_line", "profile_text", "read_profile", "_law_begun", "_law_mixed", "_law_take", "_law_pick", "_law_shuffled", "_law_caught", "_law_common", "_law_ratio", "_law_plus", "_law_times", "_law_above"]
def ln2 : List (PySem.Str) := ["_law_minus", "_law_says", "_law_kinds", "_law_is_number", "_law_is_ratio", "_law_are_ratios", "_law_is_profile", "_law_from_top", "_law_triples", "_law_figures", "_law_ratio_word", "_law_ratio_of", "_law_line", "_law_is_short", "_law_bent", "_law_is_read"]
abbrev loose : List PySem.Str := ln0 ++ ln1 ++ ln2
abbrev lawRow : PySem.W.OpenLaw := PySem.Challenge.rw_bestatall_k71_whole_texts_of_profiles
end BA.Ga
set_option maxHeartbeats 0
namespace BA.Ga
open PySem PySem.Spec PyProof.Rows L2 LamX BA
/-! ### the head -/
def fnL : List He.DefD := Dt.ds ++ [D__law_caught, D__law_begun] ++ [D_law]
def tf : List He.Defn := Dt.lams.map fun x => (x, none)
abbrev R : PySem.W.OpenRow := PySem.W.OpenLaw.row lawRow
abbrev hk : PySem.W.Hook := hookY 5 fnL tf (fun K => Dt.exB K && (He.Fa.glo "law").ok K)
def ob (s : PySem.W.SharedT) : AlY := obsY 5 fnL tf (fun K => Dt.exB K && (He.Fa.glo "law").ok K) (HandSHeadRun.getT s)
theorem ob_eq (s : PySem.W.SharedT) : ob s = hk.obs s.abs := obsY_eq (HandSHeadRun.getT_eq s)
theorem run (w : World) : HandSHeadRun.RunEq R (PySem.W.view R.prog [63]) hk ob 3000 loose w := by
  intro os
  kernel_rfl
end BA.Ga
namespace BA.Ga
open PySem PySem.Spec PyProof.Rows L2 LamX BA
end BA.Ga
/-! BaRep -/
set_option linter.all false
set_option maxRecDepth 100000
/-! BaRep: how the trees stand in the abstract heap. F: the part of the heap that is shared and never changes; H: all of it. -/
namespace BA
open PySem L2 LamX

def GoodS (x : Str) : Prop := x.length ≤ sizeLine
/-- a caught exception at a: its class, its own dict -/
def ExK (cls : Value) (od : Option Addr) (a : Addr) : HO := .ext fun h => ∃ (oe : Obj) (vs : Array Value), h.get? a = some oe ∧ Zc cls od oe ∧ oe.data = .fields vs
theorem ExK_ne_tbl {cls : Value} {od : Option Addr} {a : Addr} {ps : Array Value} : ExK cls od a ≠ .tbl ps := fun z => by unfold ExK at z; cases z

mutual
inductive Rep (g : GD) (F : Hp) : V → PV → Prop
  | non : Rep g F .non .non
  | bl (b : Bool) : Rep g F (.bl b) (.bl b)
  | int (i : Int) : Rep g F (.int i) (.int i)
  | str (x : Str) (h : GoodS x) : Rep g F (.str x) (.str x)
  | tup {a : Addr} {xs : List V} {ds : List PV} (h : SqT g.K F a xs) (r : RepAll g F xs ds) (z : ds.length ≤ sizeLine) : Rep g F (.ref a) (.tup ds)
  | lst {a : Addr} {xs : List V} {ds : List PV} (h : Rd F a (.lst xs)) (r : RepAll g F xs ds) (z : ds.length ≤ sizeLine) : Rep g F (.ref a) (.lst ds)
  | dct {a : Addr} {kvs : List (Key × V)} {ds : List (PV × PV)} (h : F a = some (.dK kvs)) (r : RepKV g F kvs ds) (z : ds.length ≤ sizeLine) : Rep g F (.ref a) (.dct ds)
  | obj {a dx : Addr} {c : Nat} {vs : List V} {ds : List PV} (h : F a = some (.ins (g.cA c) dx ((g.flds c).zip vs))) (hl : vs.length = (g.flds c).length) (r : RepAll g F vs ds) : Rep g F (.ref a) (.obj c ds)
  | exn0 {a : Addr} {c : Nat} (h : F a = some (ExK (.ref (g.cA c)) none a)) : Rep g F (.ref a) (.exn c [])
  | exn1 {a dd : Addr} {c : Nat} {vs : List V} {ds : List PV} (h : F a = some (ExK (.ref (g.cA c)) (some dd) a)) (hd : F dd = some (.xd ((g.flds c).zip vs))) (hl : vs.length = (g.flds c).length) (r : RepAll g F vs ds) : Rep g F (.ref a) (.exn c ds)
  | drw : Rep g F (.ref g.d) .drw
inductive RepAll (g : GD) (F : Hp) : List V → List PV → Prop
  | nil : RepAll g F [] []
  | cons {v : V} {vs : List V} {d : PV} {ds : List PV} (h : Rep g F v d) (t : RepAll g F vs ds) : RepAll g F (v :: vs) (d :: ds)
inductive RepKV (g : GD) (F : Hp) : List (Key × V) → List (PV × PV) → Prop
  | nil : RepKV g F [] []
  | int {i : Int} {v : V} {d : PV} {vs : List (Key × V)} {ds : List (PV × PV)} (h : Rep g F v d) (t : RepKV g F vs ds) : RepKV g F ((.inl i, v) :: vs) ((.int i, d) :: ds)
  | str {x : Str} {v : V} {d : PV} {vs : List (Key × V)} {ds : List (PV × PV)} (g' : GoodS x) (h : Rep g F v d) (t : RepKV g F vs ds) : RepKV g F ((.inr x, v) :: vs) ((.str x, d) :: ds)
end

theorem rd_mono {F F' : Hp} {a : Addr} {u : HO} (e : Same F F') (h : Rd F a u) : Rd F' a u := by
  rcases h with h | ⟨o, h⟩
  · exact .inl (e _ _ h)
  · exact .inr ⟨o, e _ _ h⟩
theorem sqT_mono {K : PySem.W.Frag} {F F' : Hp} {a : Addr} {xs : List V} (e : Same F F') (h : SqT K F a xs) : SqT K F' a xs := by
  rcases h with (h | ⟨o, h⟩) | h
  · exact .inl (.inl (e _ _ h))
  · exact .inl (.inr ⟨o, e _ _ h⟩)
  · exact .inr h
mutual
theorem Rep.mono {g : GD} {F F' : Hp} (e : Same F F') : ∀ {v : V} {d : PV}, Rep g F v d → Rep g F' v d
  | _, _, .non => .non
  | _, _, .bl b => .bl b
  | _, _, .int i => .int i
  | _, _, .str x h => .str x h
  | _, _, .tup h r z => .tup (sqT_mono e h) (r.mono e) z
  | _, _, .lst h r z => .lst (rd_mono e h) (r.mono e) z
  | _, _, .dct h r z => .dct (e _ _ h) (r.mono e) z
  | _, _, .obj h hl r => .obj (e _ _ h) hl (r.mono e)
  | _, _, .exn0 h => .exn0 (e _ _ h)
  | _, _, .exn1 h hd hl r => .exn1 (e _ _ h) (e _ _ hd) hl (r.mono e)
  | _, _, .drw => .drw
theorem RepAll.mono {g : GD} {F F' : Hp} (e : Same F F') : ∀ {vs : List V} {ds : List PV}, RepAll g F vs ds → RepAll g F' vs ds
  | _, _, .nil => .nil
  | _, _, .cons h t => .cons (h.mono e) (t.mono e)
theorem RepKV.mono {g : GD} {F F' : Hp} (e : Same F F') : ∀ {vs : List (Key × V)} {ds : List (PV × PV)}, RepKV g F vs ds → RepKV g F' vs ds
  | _, _, .nil => .nil
  | _, _, .int h t => .int (h.mono e) (t.mono e)
  | _, _, .str g' h t => .str g' (h.mono e) (t.mono e)
end
section
variable {g : GD} {F : Hp}
theorem RepAll.length : ∀ {vs : List V} {ds : List PV}, RepAll g F vs ds → vs.length = ds.length
  | _, _, .nil => rfl
  | _, _, .cons _ t => congrArg Nat.succ t.length
theorem RepAll.get : ∀ {vs : List V} {ds : List PV} {i : Nat} {v : V}, RepAll g F vs ds → vs[i]? = some v → ∃ d, ds[i]? = some d ∧ Rep g F v d
  | _, _, _, _, .nil, e => by simp at e
  | _, _, 0, _, .cons h _, e => by simp at e; subst e; exact ⟨_, rfl, h⟩
  | _, _, i + 1, v, .cons _ t, e => by
    obtain ⟨d, h1, h2⟩ := RepAll.get (i := i) (v := v) t (by simpa using e)
    exact ⟨d, by simpa using h1, h2⟩
theorem RepAll.getD : ∀ {vs : List V} {ds : List PV} {i : Nat} {d : PV}, RepAll g F vs ds → ds[i]? = some d → ∃ v, vs[i]? = some v ∧ Rep g F v d
  | _, _, _, _, .nil, e => by simp at e
  | _, _, 0, _, .cons h _, e => by simp at e; subst e; exact ⟨_, rfl, h⟩
  | _, _, i + 1, d, .cons _ t, e => by
    obtain ⟨v, h1, h2⟩ := RepAll.getD (i := i) (d := d) t (by simpa using e)
    exact ⟨v, by simpa using h1, h2⟩
theorem RepAll.append : ∀ {vs ws : List V} {ds es : List PV}, RepAll g F vs ds → RepAll g F ws es → RepAll g F (vs ++ ws) (ds ++ es)
  | _, _, _, _, .nil, s => s
  | _, _, _, _, .cons h t, s => .cons h (t.append s)
theorem RepAll.take : ∀ {vs : List V} {ds : List PV} (n : Nat), RepAll g F vs ds → RepAll g F (vs.take n) (ds.take n)
  | _, _, 0, _ => .nil
  | _, _, _ + 1, .nil => .nil
  | _, _, n + 1, .cons h t => .cons h (t.take n)
theorem RepAll.drop : ∀ {vs : List V} {ds : List PV} (n : Nat), RepAll g F vs ds → RepAll g F (vs.drop n) (ds.drop n)
  | _, _, 0, r => r
  | _, _, _ + 1, .nil => .nil
  | _, _, n + 1, .cons _ t => t.drop n
theorem RepAll.set {v : V} {d : PV} (h : Rep g F v d) : ∀ {vs : List V} {ds : List PV} (n : Nat), RepAll g F vs ds → RepAll g F (vs.set n v) (ds.set n d)
  | _, _, _, .nil => .nil
  | _, _, 0, .cons _ t => .cons h t
  | _, _, n + 1, .cons q t => .cons q (t.set h n)
theorem RepAll.erase : ∀ {vs : List V} {ds : List PV} (n : Nat), RepAll g F vs ds → RepAll g F (vs.eraseIdx n) (ds.eraseIdx n)
  | _, _, _, .nil => .nil
  | _, _, 0, .cons _ t => t
  | _, _, n + 1, .cons q t => .cons q (t.erase n)
theorem RepAll.dropLast : ∀ {vs : List V} {ds : List PV}, RepAll g F vs ds → RepAll g F vs.dropLast ds.dropLast
  | _, _, .nil => .nil
  | _, _, .cons _ .nil => .nil
  | _, _, .cons h (.cons q t) => .cons h (RepAll.dropLast (.cons q t))
theorem RepAll.ints : ∀ (ns : List Int), RepAll g F (ns.map V.int) (ns.map PV.int)
  | [] => .nil
  | _ :: ns => .cons (.int _) (RepAll.ints ns)
theorem RepAll.of_ints : ∀ {vs : List V} {ds : List PV} {ns : List Int}, RepAll g F vs ds → allInt ds = some ns → vs = ns.map V.int
  | _, _, _, .nil, e => by simp [allInt] at e; subst e; rfl
  | _, _, ns, .cons (d := d) h t, e => by
    cases h with
    | int i =>
      simp only [allInt, Option.map_eq_some_iff] at e
      obtain ⟨ms, e1, e2⟩ := e
      subst e2
      rw [RepAll.of_ints t e1]; rfl
    | _ => simp [allInt] at e
theorem RepAll.of_bls : ∀ {vs : List V} {ds : List PV} {ns : List Bool}, RepAll g F vs ds → allBl ds = some ns → vs = ns.map V.bl
  | _, _, _, .nil, e => by simp [allBl] at e; subst e; rfl
  | _, _, ns, .cons (d := d) h t, e => by
    cases h with
    | bl i =>
      simp only [allBl, Option.map_eq_some_iff] at e
      obtain ⟨ms, e1, e2⟩ := e
      subst e2
      rw [RepAll.of_bls t e1]; rfl
    | _ => simp [allBl] at e
theorem RepAll.of_strs : ∀ {vs : List V} {ds : List PV} {ns : List Str}, RepAll g F vs ds → allStr ds = some ns → vs = ns.map V.str ∧ ∀ x ∈ ns, GoodS x
  | _, _, _, .nil, e => by simp [allStr] at e; subst e; exact ⟨rfl, fun _ z => nomatch z⟩
  | _, _, ns, .cons (d := d) h t, e => by
    cases h with
    | str i gs =>
      simp only [allStr, Option.map_eq_some_iff] at e
      obtain ⟨ms, e1, e2⟩ := e
      subst e2
      obtain ⟨h1, h2⟩ := RepAll.of_strs t e1
      rw [h1]
      refine ⟨rfl, fun x hx => ?_⟩
      rcases List.mem_cons.mp hx with rfl | hx
      · exact gs
      · exact h2 x hx
    | _ => simp [allStr] at e
end

/-! ### data -/
mutual
theorem Rep.toDp {g : GD} {F : Hp} : ∀ {v : V} {d : PV} {e : PyData}, Rep g F v d → d.toD = some e → Dp g.K F v e ∧ e.plain = true
  | _, _, e, .non, h => by simp only [PV.toD, Option.some.injEq] at h; subst h; exact ⟨.non, by simp [PyData.plain]⟩
  | _, _, e, .bl b, h => by simp only [PV.toD, Option.some.injEq] at h; subst h; exact ⟨.bl b, by simp [PyData.plain]⟩
  | _, _, e, .int b, h => by simp only [PV.toD, Option.some.injEq] at h; subst h; exact ⟨.int b, by simp [PyData.plain]⟩
  | _, _, e, .str b gs, h => by simp only [PV.toD, Option.some.injEq] at h; subst h; exact ⟨.str b, by simp [PyData.plain]⟩
  | _, _, e, .tup q r z, h => by
    simp only [PV.toD, Option.map_eq_some_iff] at h
    obtain ⟨ds, e1, e2⟩ := h
    subst e2
    obtain ⟨h1, h2⟩ := r.toDps e1
    exact ⟨.tup q h1, by simpa [PyData.plain] using h2⟩
  | _, _, e, .lst q r z, h => by
    simp only [PV.toD, Option.map_eq_some_iff] at h
    obtain ⟨ds, e1, e2⟩ := h
    subst e2
    obtain ⟨h1, h2⟩ := r.toDps e1
    exact ⟨.lst (.inl q) h1, by simpa [PyData.plain] using h2⟩
  | _, _, e, .dct _ _ _, h => by simp [PV.toD] at h
  | _, _, e, .obj _ _ _, h => by simp [PV.toD] at h
  | _, _, e, .exn0 _, h => by simp [PV.toD] at h
  | _, _, e, .exn1 _ _ _ _, h => by simp [PV.toD] at h
  | _, _, e, .drw, h => by simp [PV.toD] at h
theorem RepAll.toDps {g : GD} {F : Hp} : ∀ {vs : List V} {ds : List PV} {es : List PyData}, RepAll g F vs ds → PV.toDs ds = some es → DpAll g.K F vs es ∧ PyData.plainAll es = true
  | _, _, es, .nil, h => by simp only [PV.toDs, Option.some.injEq] at h; subst h; exact ⟨.nil, by simp [PyData.plainAll]⟩
  | _, _, es, .cons (d := d) (ds := ds) q t, h => by
    simp only [PV.toDs] at h
    cases e1 : d.toD with
    | none => rw [e1] at h; simp at h
    | some x =>
      cases e2 : PV.toDs ds with
      | none => rw [e1, e2] at h; simp at h
      | some xs =>
        rw [e1, e2] at h
        simp only [Option.some.injEq] at h
        subst h
        obtain ⟨h1, h2⟩ := q.toDp e1
        obtain ⟨h3, h4⟩ := t.toDps e2
        exact ⟨.cons h1 h3, by simp [PyData.plainAll, h2, h4]⟩
end
mutual
theorem Dp.mono {K : PySem.W.Frag} {H H' : Hp} (e : Same H H') : ∀ {v : V} {d : PyData}, Dp K H v d → Dp K H' v d
  | _, _, .non => .non
  | _, _, .bl b => .bl b
  | _, _, .int b => .int b
  | _, _, .str b => .str b
  | _, _, .lst h r => .lst (e.seq h) (DpAll.mono e r)
  | _, _, .tup h r => .tup (sqT_mono e h) (DpAll.mono e r)
theorem DpAll.mono {K : PySem.W.Frag} {H H' : Hp} (e : Same H H') : ∀ {vs : List V} {ds : List PyData}, DpAll K H vs ds → DpAll K H' vs ds
  | _, _, .nil => .nil
  | _, _, .cons h t => .cons (Dp.mono e h) (DpAll.mono e t)
end

/-! ### what is one's own -/
inductive OwnR (g : GD) (F H : Hp) (a : Addr) : PV → Prop
  | lst {xs : List V} {ds : List PV} (h : H a = some (.lst xs)) (r : RepAll g F xs ds) (z : ds.length ≤ sizeLine) : OwnR g F H a (.lst ds)
  | dct {kvs : List (Key × V)} {ds : List (PV × PV)} (h : H a = some (.dK kvs)) (r : RepKV g F kvs ds) (z : ds.length ≤ sizeLine) : OwnR g F H a (.dct ds)
/-- the draw record -/
structure DrOk (g : GD) (F H : Hp) (D : Dr) : Prop where
  ne : g.d ≠ g.l
  fd : F g.d = none
  fl : F g.l = none
  hl : H g.l = some (.lst (D.large.map V.int))
  hd : ∃ lc, H g.d = some (.dK [(.inr "large", .ref g.l), (.inr "rest", .int D.rest), (.inr "cells", .ref lc), (.inr "turn", .int D.turn)]) ∧ F lc = some (.lst (D.cells.map V.int))
  zl : D.large.length ≤ sizeLine
  zc : D.cells.length ≤ sizeLine
/-- nothing stands there, or a lambda's table -/
def NT (H : Hp) (b : Addr) : Prop := ∀ u, H b = some u → ∃ ps, u = .tbl ps
theorem NT.of {H : Hp} {b : Addr} (h : H b = none) : NT H b := fun u e => by rw [h] at e; cases e
theorem NT.no {H : Hp} {b : Addr} {u : HO} (h : NT H b) (e : H b = some u) (n : ∀ ps, u ≠ .tbl ps) : False := by
  obtain ⟨ps, z⟩ := h u e
  exact n ps z
/-- from F0, H0 to F, H: what was there stands, but the draw record and the lambdas' tables; what is newly shared is new -/
structure RB (g : GD) (F0 H0 F H : Hp) (D : Dr) : Prop where
  ext : Same F H
  f0 : Same F0 F
  new : ∀ b o, F b = some o → F0 b = some o ∨ NT H0 b
  keep : ∀ b o, H0 b = some o → (∀ ps, o ≠ .tbl ps) → b ≠ g.d → b ≠ g.l → H b = some o
  nt : ∀ b ps, F b ≠ some (.tbl ps)
  tabs : Tabs g.Tb H
  dr : DrOk g F H D
theorem Same.none_of {F H : Hp} (e : Same F H) {a : Addr} (h : H a = none) : F a = none := e.free h
section
variable {g : GD} {F0 H0 F H F' H' F2 H2 : Hp} {D D' D2 : Dr}
theorem RB.refl (r : RB g F0 H0 F H D) : RB g F H F H D :=
  ⟨r.ext, Same.refl _, fun _ _ e => .inl e, fun _ _ e _ _ _ => e, r.nt, r.tabs, r.dr⟩
theorem RB.nt_of (r : RB g F0 H0 F H D) {b : Addr} (h : NT H b) : NT H0 b := fun u e => by
  by_cases ht : ∃ ps, u = .tbl ps
  · exact ht
  · exfalso
    have ht' : ∀ ps, u ≠ .tbl ps := fun ps z => ht ⟨ps, z⟩
    by_cases hd : b = g.d
    · subst hd; obtain ⟨lc, e, _⟩ := r.dr.hd; exact h.no e (fun ps z => by cases z)
    · by_cases hl : b = g.l
      · subst hl; exact h.no r.dr.hl (fun ps z => by cases z)
      · exact h.no (r.keep b u e ht' hd hl) ht'
theorem RB.trans (r : RB g F0 H0 F H D) (q : RB g F H F' H' D') : RB g F0 H0 F' H' D' where
  ext := q.ext
  f0 := r.f0.trans q.f0
  new := fun b o e => by
    rcases q.new b o e with h | h
    · exact r.new b o h
    · exact .inr (r.nt_of h)
  keep := fun b o h ht hd hl => q.keep b o (r.keep b o h ht hd hl) ht hd hl
  nt := q.nt
  tabs := q.tabs
  dr := q.dr
theorem DrOk.upd {p : Addr} {o : HO} (r : DrOk g F H D) (hp : H p = none) : DrOk g F (upd H p o) D := by
  obtain ⟨ne, fd, fl, hl, ⟨lc, hd, hc⟩, z1, z2⟩ := r
  exact ⟨ne, fd, fl, by rw [upd_ne (ne_of_none hl hp)]; exact hl, ⟨lc, by rw [upd_ne (ne_of_none hd hp)]; exact hd, hc⟩, z1, z2⟩
theorem same_new {H : Hp} {p : Addr} {o : HO} (h : H p = none) : Same H (upd H p o) := fun b x e => by
  rw [upd_ne (ne_of_none e h)]; exact e
theorem tabs_new {T : List (Addr × Str)} {H : Hp} {p : Addr} {o : HO} (t : Tabs T H) (h : H p = none) : Tabs T (upd H p o) := t.ext (same_new h)
/-- a new object, not shared -/
theorem RB.newO {p : Addr} {o : HO} (r : RB g F0 H0 F H D) (hp : H p = none) : RB g F H F (upd H p o) D where
  ext := r.ext.trans (same_new hp)
  f0 := Same.refl _
  new := fun b o e => .inl e
  keep := fun b u e _ _ _ => same_new hp b u e
  nt := r.nt
  tabs := tabs_new r.tabs hp
  dr := r.dr.upd hp
/-- an object that was new at the entry is shared from now on -/
theorem RB.share {p : Addr} {o : HO} (r : RB g F0 H0 F H D) (hp : H p = some o) (h0 : NT H0 p) (hF : F p = none) (hd : p ≠ g.d) (hl : p ≠ g.l) (ht : ∀ ps, o ≠ .tbl ps) : RB g F0 H0 (upd F p o) H D where
  ext := fun b u e => by
    by_cases hb : b = p
    · subst hb; rw [upd_same] at e; cases e; exact hp
    · rw [upd_ne hb] at e; exact r.ext b u e
  f0 := r.f0.trans (same_new hF)
  new := fun b u e => by
    by_cases hb : b = p
    · subst hb; exact .inr h0
    · rw [upd_ne hb] at e; exact r.new b u e
  keep := r.keep
  nt := fun b ps e => by
    by_cases hb : b = p
    · subst hb; rw [upd_same] at e; exact ht ps (Option.some.inj e)
    · rw [upd_ne hb] at e; exact r.nt b ps e
  tabs := r.tabs
  dr := by
    obtain ⟨ne, fd, fl, hll, ⟨lc, hdd, hc⟩, z1, z2⟩ := r.dr
    exact ⟨ne, by rw [upd_ne (Ne.symm hd)]; exact fd, by rw [upd_ne (Ne.symm hl)]; exact fl, hll, ⟨lc, hdd, same_new hF _ _ hc⟩, z1, z2⟩
theorem RB.not_dl (r : RB g F0 H0 F H D) {p : Addr} (hp : H p = none) : p ≠ g.d ∧ p ≠ g.l := by
  obtain ⟨ne, fd, fl, hll, ⟨lc, hdd, hc⟩, z1, z2⟩ := r.dr
  exact ⟨fun e => (by rw [e, hdd] at hp; cases hp), fun e => (by rw [e, hll] at hp; cases hp)⟩
/-- a new object, shared at once -/
theorem RB.newF {p : Addr} {o : HO} (r : RB g F0 H0 F H D) (hp : H p = none) (ht : ∀ ps, o ≠ .tbl ps) : RB g F H (upd F p o) (upd H p o) D := by
  obtain ⟨h1, h2⟩ := r.not_dl hp
  have q := r.newO (o := o) hp
  exact q.share upd_same (NT.of hp) (r.ext.free hp) h1 h2 ht
theorem Rep.at {v : V} {d : PV} (r : RB g F0 H0 F H D) (h : Rep g F0 v d) : Rep g F v d := h.mono r.f0
end

/-! ### slots -/
structure SL (g : GD) (H0 F H : Hp) (σ : L2.St) (S : Env) : Prop where
  len : σ.length = S.length
  sl : ∀ (i : Nat) (v : PV), S[i]? = some (.val v) → ∃ x, σ[i]? = some (some x) ∧ Rep g F x v
  ow : ∀ (i : Nat) (v : PV), S[i]? = some (.own v) → ∃ a, σ[i]? = some (some (.ref a)) ∧ OwnR g F H a v ∧ F a = none ∧ NT H0 a ∧ a ≠ g.d ∧ a ≠ g.l
  ap : ∀ (i j : Nat) (a : Addr) (v w : PV), i ≠ j → S[i]? = some (.own v) → S[j]? = some (.own w) → σ[i]? = some (some (.ref a)) → σ[j]? ≠ some (some (.ref a))
section
variable {g : GD} {F0 H0 F H F' H' : Hp} {D D' : Dr} {σ : L2.St} {S : Env}
theorem OwnR.grow {a : Addr} {v : PV} (q : RB g F H F' H' D') (hd : a ≠ g.d) (hl : a ≠ g.l) (h : OwnR g F H a v) : OwnR g F' H' a v := by
  cases h with
  | lst h r z => exact .lst (q.keep a _ h (fun ps e => by cases e) hd hl) (r.mono q.f0) z
  | dct h r z => exact .dct (q.keep a _ h (fun ps e => by cases e) hd hl) (r.mono q.f0) z
theorem OwnR.there {a : Addr} {v : PV} (h : OwnR g F H a v) : ∃ o, H a = some o ∧ ∀ ps, o ≠ .tbl ps := by
  cases h with
  | lst h r z => exact ⟨_, h, fun ps e => by cases e⟩
  | dct h r z => exact ⟨_, h, fun ps e => by cases e⟩
theorem SL.grow (s : SL g H0 F H σ S) (q : RB g F H F' H' D') : SL g H0 F' H' σ S where
  len := s.len
  sl := fun i v e => let ⟨x, h1, h2⟩ := s.sl i v e; ⟨x, h1, h2.mono q.f0⟩
  ow := fun i v e => by
    obtain ⟨a, h1, h2, h3, h4, h5, h6⟩ := s.ow i v e
    refine ⟨a, h1, h2.grow q h5 h6, ?_, h4, h5, h6⟩
    cases z : F' a with
    | none => rfl
    | some o =>
      rcases q.new a o z with y | y
      · rw [h3] at y; cases y
      · obtain ⟨u, hu, hnt⟩ := h2.there
        exact (y.no hu (by assumption)).elim
  ap := s.ap
end
end BA
/-! BaOps -/
set_option linter.all false
set_option maxRecDepth 100000
set_option maxHeartbeats 1000000
/-! BaOps: the operators by values. -/
namespace BA
open PySem PySem.Spec PyProof.Rows L2 LamX

/-- what follows an answer v from F, H on -/
def Fin (g : GD) (F H : Hp) (D : Dr) (Q : VK) (v : PV) : Prop := ∀ F' H' x, RB g F H F' H' D → Rep g F' x v → Q x H'
/-- what follows a new list of one's own -/
def FinL (g : GD) (F H : Hp) (D : Dr) (Q : VK) (ds : List PV) : Prop :=
  ∀ F' H' p xs, RB g F H F' H' D → H' p = some (.lst xs) → RepAll g F' xs ds → ds.length ≤ sizeLine → F' p = none → NT H p → p ≠ g.d → p ≠ g.l → Q (.ref p) H'
/-- read only: shared, or one's own -/
def BRep (g : GD) (F H : Hp) (x : V) (v : PV) : Prop := Rep g F x v ∨ ∃ a, x = .ref a ∧ OwnR g F H a v ∧ a ≠ g.d ∧ a ≠ g.l
section
variable {g : GD} {F0 H0 F H F' H' : Hp} {D D' : Dr} {Q : VK} {v : PV} {x y : V}
theorem Fin.now (r : RB g F0 H0 F H D) (q : Fin g F H D Q v) (h : Rep g F x v) : Q x H := q F H x r.refl h
theorem Fin.lst {ds : List PV} (q : Fin g F H D Q (.lst ds)) : FinL g F H D Q ds := fun F' H' p xs r hp ra z hF h0 hd hl =>
  q (upd F' p (.lst xs)) H' (.ref p) (r.share hp h0 hF hd hl (fun ps e => by cases e)) (.lst (.inl upd_same) (ra.mono (same_new hF)) z)
/-- a new list is laid -/
theorem FinL.laid {ds : List PV} {xs : List V} (q : FinL g F H D Q ds) (r : RB g F0 H0 F H D) (ra : RepAll g F xs ds) (z : ds.length ≤ sizeLine) : ∀ p, H p = none → Q (.ref p) (upd H p (.lst xs)) := fun p hp =>
  let ⟨h1, h2⟩ := r.not_dl hp
  q F _ p xs (r.newO hp) upd_same ra z (r.ext.free hp) (NT.of hp) h1 h2
/-- a new tuple is laid -/
theorem Fin.tupN {ds : List PV} {xs : List V} (q : Fin g F H D Q (.tup ds)) (r : RB g F0 H0 F H D) (ra : RepAll g F xs ds) (z : ds.length ≤ sizeLine) : ∀ p, H p = none → Q (.ref p) (upd H p (.tup xs)) := fun p hp =>
  q (upd F p (.tup xs)) _ _ (r.newF hp (fun ps e => by cases e)) (.tup (.inl (.inl upd_same)) (ra.mono (same_new (r.ext.free hp))) z)
theorem BRep.of (h : Rep g F x v) : BRep g F H x v := .inl h
theorem BRep.grow (r : RB g F H F' H' D') (h : BRep g F H x v) : BRep g F' H' x v := by
  rcases h with h | ⟨a, e, o, h1, h2⟩
  · exact .inl (h.mono r.f0)
  · exact .inr ⟨a, e, o.grow r h1 h2, h1, h2⟩
theorem BRep.lst (e : Same F H) {ds : List PV} (h : BRep g F H x (.lst ds)) : ∃ a xs, x = .ref a ∧ Rd H a (.lst xs) ∧ RepAll g F xs ds ∧ ds.length ≤ sizeLine := by
  rcases h with h | ⟨a, e, o, _⟩
  · cases h with
    | lst h r z => exact ⟨_, _, rfl, rd_mono e h, r, z⟩
  · cases o with
    | lst h r z => exact ⟨_, _, e, .inl h, r, z⟩
theorem BRep.tup (e : Same F H) {ds : List PV} (h : BRep g F H x (.tup ds)) : ∃ a xs, x = .ref a ∧ SqT g.K H a xs ∧ RepAll g F xs ds ∧ ds.length ≤ sizeLine := by
  rcases h with h | ⟨a, e, o, _⟩
  · cases h with
    | tup h r z => exact ⟨_, _, rfl, sqT_mono e h, r, z⟩
  · cases o
theorem BRep.dct (e : Same F H) {ds : List (PV × PV)} (h : BRep g F H x (.dct ds)) : ∃ a kvs, x = .ref a ∧ H a = some (.dK kvs) ∧ RepKV g F kvs ds ∧ ds.length ≤ sizeLine := by
  rcases h with h | ⟨a, e, o, _⟩
  · cases h with
    | dct h r z => exact ⟨_, _, rfl, e _ _ h, r, z⟩
  · cases o with
    | dct h r z => exact ⟨_, _, e, h, r, z⟩
theorem BRep.int {i : Int} (h : BRep g F H x (.int i)) : x = .int i := by
  rcases h with h | ⟨a, e, o, _⟩
  · cases h; rfl
  · cases o
theorem BRep.bl {b : Bool} (h : BRep g F H x (.bl b)) : x = .bl b := by
  rcases h with h | ⟨a, e, o, _⟩
  · cases h; rfl
  · cases o
theorem BRep.non (h : BRep g F H x .non) : x = .non := by
  rcases h with h | ⟨a, e, o, _⟩
  · cases h; rfl
  · cases o
theorem BRep.str {z : Str} (h : BRep g F H x (.str z)) : x = .str z ∧ GoodS z := by
  rcases h with h | ⟨a, e, o, _⟩
  · cases h with
    | str _ gs => exact ⟨rfl, gs⟩
  · cases o
theorem OwnR.toDp {a : Addr} {d : PyData} (e : Same F H) (o : OwnR g F H a v) (h : v.toD = some d) : Dp g.K H (.ref a) d ∧ d.plain = true := by
  cases o with
  | lst q r z =>
    simp only [PV.toD, Option.map_eq_some_iff] at h
    obtain ⟨ds, e1, e2⟩ := h
    subst e2
    obtain ⟨h1, h2⟩ := r.toDps e1
    exact ⟨.lst (.inl (.inl q)) (DpAll.mono e h1), by simpa [PyData.plain] using h2⟩
  | dct q r z => simp [PV.toD] at h
theorem BRep.toDp {d : PyData} (e : Same F H) (h : BRep g F H x v) (hd : v.toD = some d) : Dp g.K H x d ∧ d.plain = true := by
  rcases h with h | ⟨a, rfl, o, _⟩
  · obtain ⟨h1, h2⟩ := h.toDp hd
    exact ⟨Dp.mono e h1, h2⟩
  · exact o.toDp e hd
theorem BRep.is_non (h : BRep g F H x v) : decide (x = .non) = isNonV v := by
  rcases h with h | ⟨a, rfl, o, _⟩
  · cases h <;> rfl
  · cases o <;> rfl
end

/-! ### + -/
section
variable {X : Cx}
theorem lstR {pins : List (Addr × Obj)} {σ : L2.St} {H : Hp} {s : Shared} {l : Addr} {xs : List V} (I : Inv X pins σ H s) (h : Rd H l (.lst xs)) :
    ∃ (its : List Value) (n : Nat), Vals xs its ∧ xs.length = its.length ∧ xs.length ≤ sizeLine ∧ s.heap.get? l = some { cls := .type "list", data := .seq its.toArray n } := by
  obtain ⟨z, its, n, r, e⟩ := h.ok I.hok
  exact ⟨its, n, r, r.length, z, e⟩
def rCatR : R2 := fun x y H Q => ∃ l b xs zs, x = .ref l ∧ y = .ref b ∧ Rd H l (.lst xs) ∧ Rd H b (.lst zs) ∧ xs.length + zs.length ≤ sizeLine ∧ ∀ p, H p = none → Q (.ref p) (upd H p (.lst (xs ++ zs)))
theorem op_catR : OpR X (binaryOp .Add) rCatR := by
  intro pins s σ H x y v u Q I rx ry h
  obtain ⟨l, b, xs, zs, rfl, rfl, hH, hB, hz, q⟩ := h
  cases rx
  cases ry
  obtain ⟨its, n, r, hl, z, e⟩ := lstR I hH
  obtain ⟨its2, n2, r2, hl2, z2, e2⟩ := lstR I hB
  refine PySem.P.add_list e e2 ?_ (by rw [List.size_toArray, List.size_toArray]; omega)
  have ea : its.toArray ++ its2.toArray = (its ++ its2).toArray := by simp
  rw [ea]
  exact ⟨.ref _, _, I.lnew (t' := s.toks) (r.append r2) (by rw [List.length_append]; omega), rfl, q _ I.fresh⟩
def rAdd (K : PySem.W.Frag) : R2 := fun x y H Q =>
  rI0 (fun i j => .int (i + j)) x y H Q ∨ (∃ i j, x = .str i ∧ y = .str j ∧ i.length + j.length ≤ sizeLine ∧ Q (.str (i ++ j)) H) ∨ rCatR x y H Q ∨ rCatA K x y H Q
theorem op_addA : OpR X (binaryOp .Add) (rAdd X.K) := op_add.or (op_add_str.or (op_catR.or op_catA))
end
section
variable {g : GD} {F0 H0 F H F' H' : Hp} {D D' : Dr} {Q : VK} {v va vb : PV} {x y : V}
theorem add_lst {a b : List PV} (r : RB g F0 H0 F H D) (hx : BRep g F H x (.lst a)) (hy : BRep g F H y (.lst b)) (z : a.length + b.length ≤ sizeLine) (q : FinL g F H D Q (a ++ b)) : rAdd g.K x y H Q := by
  obtain ⟨l, xs, rfl, h1, r1, _⟩ := hx.lst r.ext
  obtain ⟨m, ys, rfl, h2, r2, _⟩ := hy.lst r.ext
  exact .inr (.inr (.inl ⟨l, m, xs, ys, rfl, rfl, h1, h2, by rw [r1.length, r2.length]; exact z, q.laid r (r1.append r2) (by rw [List.length_append]; exact z)⟩))
theorem add_ok (r : RB g F0 H0 F H D) (hx : BRep g F H x va) (hy : BRep g F H y vb) (e : binV .add va vb = some v) (q : Fin g F H D Q v) : rAdd g.K x y H Q := by
  cases va with
  | int a =>
    cases vb with
    | int b =>
      cases e
      exact .inl ⟨a, b, hx.int, hy.int, q.now r (.int _)⟩
    | _ => cases e
  | str a =>
    cases vb with
    | str b =>
      simp only [binV] at e
      split at e
      · rename_i z
        cases e
        exact .inr (.inl ⟨a, b, hx.str.1, hy.str.1, z, q.now r (.str _ (by show (a ++ b).length ≤ sizeLine; rw [strLen_append]; exact z))⟩)
      · cases e
    | _ => cases e
  | lst a =>
    cases vb with
    | lst b =>
      simp only [binV] at e
      split at e
      · rename_i z
        cases e
        exact add_lst r hx hy z q.lst
      · cases e
    | _ => cases e
  | tup a =>
    cases vb with
    | tup b =>
      simp only [binV] at e
      split at e
      · rename_i z
        cases e
        obtain ⟨l, xs, rfl, h1, r1, z1⟩ := hx.tup r.ext
        obtain ⟨m, ys, rfl, h2, r2, z2⟩ := hy.tup r.ext
        have hb1 : BRep g F H (.ref l) (.tup a) := hx
        refine .inr (.inr (.inr ⟨l, m, xs, ys, rfl, rfl, h1, h2, by rw [r1.length, r2.length]; exact z, fun e0 => ?_, fun e0 e1 => ?_, fun _ _ => q.tupN r (r1.append r2) (by rw [List.length_append]; exact z)⟩))
        · subst e0
          cases r1
          rcases hy with hy | ⟨_, _, o, _⟩
          · exact q.now r hy
          · cases o
        · subst e1
          cases r2
          rw [List.append_nil] at q
          rcases hx with hx | ⟨_, _, o, _⟩
          · exact q.now r hx
          · cases o
      · cases e
    | _ => cases e
  | _ => cases vb <;> cases e

/-! ### the other operators -/
end
section
variable {X : Cx}
def rMul : R2 := fun x y H Q => rI CMulW (fun i j => .int (i * j)) x y H Q ∨ rRep x y H Q
theorem op_mulA : OpR X (binaryOp .Mult) rMul := op_mulW.or op_rep
def CDivA (_ j : Int) : Prop := j ≠ 0 ∧ j.natAbs.log2 < 9000
theorem op_fdivA : OpR X (binaryOp .FloorDiv) (rI CDivA fun i j => .int (i.fdiv j)) := opI fun _ _ _ _ _ _ _ hc q => floordiv_int hc.1 q (.inl (PyProof.noPylong_of_log2 hc.2))
end
section
variable {g : GD} {F0 H0 F H F' H' : Hp} {D D' : Dr} {Q : VK} {v va vb : PV} {x y : V}
theorem sub_ok (r : RB g F0 H0 F H D) (hx : BRep g F H x va) (hy : BRep g F H y vb) (e : binV .sub va vb = some v) (q : Fin g F H D Q v) : rI0 (fun i j => .int (i - j)) x y H Q := by
  cases va with
  | int a =>
    cases vb with
    | int b =>
      cases e
      exact ⟨a, b, hx.int, hy.int, q.now r (.int _)⟩
    | _ => cases e
  | _ => cases vb <;> cases e
theorem fdiv_ok (r : RB g F0 H0 F H D) (hx : BRep g F H x va) (hy : BRep g F H y vb) (e : binV .fdiv va vb = some v) (q : Fin g F H D Q v) : rI CDivA (fun i j => .int (i.fdiv j)) x y H Q := by
  cases va with
  | int a =>
    cases vb with
    | int b =>
      simp only [binV] at e
      split at e
      · rename_i z
        cases e
        exact ⟨a, b, hx.int, hy.int, z, q.now r (.int _)⟩
      · cases e
    | _ => cases e
  | _ => cases vb <;> cases e
theorem mod_ok (r : RB g F0 H0 F H D) (hx : BRep g F H x va) (hy : BRep g F H y vb) (e : binV .mod va vb = some v) (q : Fin g F H D Q v) : rI (fun _ j => j ≠ 0) (fun i j => .int (i.fmod j)) x y H Q := by
  cases va with
  | int a =>
    cases vb with
    | int b =>
      simp only [binV] at e
      split at e
      · rename_i z
        cases e
        exact ⟨a, b, hx.int, hy.int, z, q.now r (.int _)⟩
      · cases e
    | _ => cases e
  | _ => cases vb <;> cases e
theorem pow_ok (r : RB g F0 H0 F H D) (hx : BRep g F H x va) (hy : BRep g F H y vb) (e : binV .pow va vb = some v) (q : Fin g F H D Q v) : rI CPow (fun i j => .int (i ^ j.toNat)) x y H Q := by
  cases va with
  | int a =>
    cases vb with
    | int b =>
      simp only [binV] at e
      split at e
      · rename_i z
        cases e
        exact ⟨a, b, hx.int, hy.int, z, q.now r (.int _)⟩
      · cases e
    | _ => cases e
  | _ => cases vb <;> cases e
theorem mul_ok (r : RB g F0 H0 F H D) (hx : BRep g F H x va) (hy : BRep g F H y vb) (e : binV .mul va vb = some v) (q : Fin g F H D Q v) : rMul x y H Q := by
  cases va with
  | int a =>
    cases vb with
    | int b =>
      simp only [binV] at e
      split at e
      · rename_i z
        cases e
        exact .inl ⟨a, b, hx.int, hy.int, z, q.now r (.int _)⟩
      · cases e
    | _ => cases e
  | _ => cases vb <;> cases e
end
end BA
/-! BaOps2 -/
set_option linter.all false
set_option maxRecDepth 100000
set_option maxHeartbeats 1000000
/-! BaOps2: comparisons, items, slices, built-in functions and methods. -/
namespace BA
open PySem PySem.Spec PyProof.Rows L2 LamX

/-! ### comparisons -/
def opC : COp → CmpOp
  | .lt => .Lt | .le => .LtE | .gt => .Gt | .ge => .GtE | .eq => .Eq | .ne => .NotEq | .is => .Is | .isnot => .IsNot | .inn => .In | .nin => .NotIn
def rEqP (K : PySem.W.Frag) (neg : Bool) : R2 := fun x y H Q => ∃ d e, Dp K H x d ∧ Dp K H y e ∧ d.plain = true ∧ e.plain = true ∧ min d.depth e.depth ≤ 64 ∧ Q (.bl (if neg = true then !PyData.eqv d e else PyData.eqv d e)) H
def rInP (K : PySem.W.Frag) (neg : Bool) : R2 := fun x y H Q => ∃ d ds, Dp K H x d ∧ (Dp K H y (.list ds) ∨ Dp K H y (.tuple ds)) ∧ d.plain = true ∧ PyData.plainAll ds = true ∧ min (PyData.depthAll ds) d.depth ≤ 64 ∧
  Q (.bl (if neg = true then !(ds.any fun z => PyData.eqv z d) else ds.any fun z => PyData.eqv z d)) H
def rInD (neg : Bool) : R2 := fun x y H Q => ∃ a kvs k, y = .ref a ∧ H a = some (.dK kvs) ∧ x = kV k ∧ Q (.bl (if neg = true then !(valV kvs k).isSome else (valV kvs k).isSome)) H
section
variable {X : Cx}
theorem op_eqP (hu : X.A.units + 64 < cLine) : OpR X (compareOp .Eq) (rEqP X.K false) := by
  intro pins s σ H x y v u Q I rx ry h
  obtain ⟨d, e, hd, he, sd, se, hm, q⟩ := h
  obtain ⟨as, r1⟩ := Dp.reads I d x v hd rx
  obtain ⟨bs, r2⟩ := Dp.reads I e y u he ry
  exact SeqAt.eq_plain r1 r2 sd se (by omega) ⟨.bl _, H, I, rfl, q⟩
theorem op_neP (hu : X.A.units + 64 < cLine) : OpR X (compareOp .NotEq) (rEqP X.K true) := by
  intro pins s σ H x y v u Q I rx ry h
  obtain ⟨d, e, hd, he, sd, se, hm, q⟩ := h
  obtain ⟨as, r1⟩ := Dp.reads I d x v hd rx
  obtain ⟨bs, r2⟩ := Dp.reads I e y u he ry
  exact SeqAt.ne_plain r1 r2 sd se (by omega) ⟨.bl _, H, I, rfl, q⟩
theorem op_inP (hu : X.A.units + 65 < cLine) : OpR X (compareOp .In) (rInP X.K false) := by
  intro pins s σ H x y v u Q I rx ry h
  obtain ⟨d, ds, hd, he, sd, se, hm, q⟩ := h
  obtain ⟨as, r1⟩ := Dp.reads I d x v hd rx
  rcases he with he | he
  · obtain ⟨bs, r2⟩ := Dp.reads I (.list ds) y u he ry
    exact SeqAt.in_list_data r2 r1 se sd (by omega) ⟨.bl _, H, I, rfl, q⟩
  · obtain ⟨bs, r2⟩ := Dp.reads I (.tuple ds) y u he ry
    exact SeqAt.in_tuple_data r2 r1 se sd (by omega) ⟨.bl _, H, I, rfl, q⟩
theorem op_ninP (hu : X.A.units + 65 < cLine) : OpR X (compareOp .NotIn) (rInP X.K true) := by
  intro pins s σ H x y v u Q I rx ry h
  obtain ⟨d, ds, hd, he, sd, se, hm, q⟩ := h
  obtain ⟨as, r1⟩ := Dp.reads I d x v hd rx
  rcases he with he | he
  · obtain ⟨bs, r2⟩ := Dp.reads I (.list ds) y u he ry
    exact SeqAt.notIn_list_data r2 r1 se sd (by omega) ⟨.bl _, H, I, rfl, q⟩
  · obtain ⟨bs, r2⟩ := Dp.reads I (.tuple ds) y u he ry
    exact SeqAt.notIn_tuple_data r2 r1 se sd (by omega) ⟨.bl _, H, I, rfl, q⟩
theorem op_inDk (hu : X.A.units + 1 < cLine) : OpR X (compareOp .In) (rInD false) := by
  intro pins s σ H x y v u Q I rx ry h
  obtain ⟨a, kvs, k, rfl, ha, rfl, q⟩ := h
  cases ry
  exact d_in hu I (DGet.k ha) rx fun s' I' => ⟨.bl _, H, I', rfl, q⟩
theorem op_ninDk (hu : X.A.units + 1 < cLine) : OpR X (compareOp .NotIn) (rInD true) := by
  intro pins s σ H x y v u Q I rx ry h
  obtain ⟨a, kvs, k, rfl, ha, rfl, q⟩ := h
  cases ry
  exact d_notIn hu I (DGet.k ha) rx fun s' I' => ⟨.bl _, H, I', rfl, q⟩
end
def rCmp (K : PySem.W.Frag) : COp → R2
  | .lt => rI0 fun i j => .bl (decide (i < j))
  | .le => rI0 fun i j => .bl (decide (i ≤ j))
  | .gt => rI0 fun i j => .bl (decide (j < i))
  | .ge => rI0 fun i j => .bl (decide (j ≤ i))
  | .eq => fun x y H Q => rEq x y H Q ∨ rEqP K false x y H Q
  | .ne => fun x y H Q => rNe x y H Q ∨ rEqP K true x y H Q
  | .is => fun x y H Q => y = .non ∧ Q (.bl (decide (x = .non))) H
  | .isnot => fun x y H Q => y = .non ∧ Q (.bl (!decide (x = .non))) H
  | .inn => fun x y H Q => rInP K false x y H Q ∨ (∃ (c : Nat) (z : Str), x = .str ⟨#[c]⟩ ∧ y = .str z ∧ Q (.bl (decide (c ∈ z.cps.toList))) H) ∨ rInD false x y H Q
  | .nin => fun x y H Q => rInP K true x y H Q ∨ (∃ (c : Nat) (z : Str), x = .str ⟨#[c]⟩ ∧ y = .str z ∧ Q (.bl (!decide (c ∈ z.cps.toList))) H) ∨ rInD true x y H Q
theorem op_cmp {X : Cx} (hu : X.A.units + 65 < cLine) : ∀ o, OpR X (compareOp (opC o)) (rCmp X.K o)
  | .lt => op_lt
  | .le => op_le
  | .gt => op_gt
  | .ge => op_ge
  | .eq => op_eq.or (op_eqP (by omega))
  | .ne => op_ne.or (op_neP (by omega))
  | .is => op_isN
  | .isnot => op_notN
  | .inn => (op_inP hu).or (op_in_sign.or (op_inDk (by omega)))
  | .nin => (op_ninP hu).or (op_notIn_sign.or (op_ninDk (by omega)))
section
variable {g : GD} {F0 H0 F H F' H' : Hp} {D D' : Dr} {Q : VK} {v va vb : PV} {x y : V}
theorem valV_any_int {kvs : List (Key × V)} {ds : List (PV × PV)} (r : RepKV g F kvs ds) (i : Int) : (valV kvs (.inl i)).isSome = ds.any fun kv => match kv.1 with | .int j => decide (i = j) | _ => false := by
  induction kvs generalizing ds with
  | nil => cases r; rfl
  | cons p kvs ih =>
    cases r with
    | int h t =>
      rename_i j v d ds
      rw [List.any_cons, ← ih t]
      by_cases e : i = j
      · subst e
        rw [valV_pos rfl]
        simp
      · rw [valV_neg (fun q => e (Sum.inl.inj q).symm)]
        simp [e]
    | str g' h t =>
      rename_i j v d ds
      rw [List.any_cons, ← ih t, valV_neg (p := (Sum.inr j, v)) (k := Sum.inl i) (fun q => by cases q)]
      simp
theorem valV_any_str {kvs : List (Key × V)} {ds : List (PV × PV)} (r : RepKV g F kvs ds) (i : Str) : (valV kvs (.inr i)).isSome = ds.any fun kv => match kv.1 with | .str j => decide (i = j) | _ => false := by
  induction kvs generalizing ds with
  | nil => cases r; rfl
  | cons p kvs ih =>
    cases r with
    | str g' h t =>
      rename_i j v d ds
      rw [List.any_cons, ← ih t]
      by_cases e : i = j
      · subst e
        rw [valV_pos rfl]
        simp
      · rw [valV_neg (fun q => e (Sum.inr.inj q).symm)]
        simp [e]
    | int h t =>
      rename_i j v d ds
      rw [List.any_cons, ← ih t, valV_neg (p := (Sum.inl j, v)) (k := Sum.inr i) (fun q => by cases q)]
      simp
theorem eq_ok (neg : Bool) {b : Bool} (r : RB g F0 H0 F H D) (hx : BRep g F H x va) (hy : BRep g F H y vb) (e : eqV va vb = some b) (q : Fin g F H D Q (.bl (if neg = true then !b else b))) :
    (scal x y = true ∧ Q (.bl (if neg = true then !decide (x = y) else decide (x = y))) H) ∨ rEqP g.K neg x y H Q := by
  have gen : (match va.toD, vb.toD with | some d, some e => if min d.depth e.depth ≤ 64 then some (PyData.eqv d e) else none | _, _ => none) = some b → rEqP g.K neg x y H Q := fun e => by
    cases e1 : va.toD with
    | none => rw [e1] at e; simp at e
    | some d =>
      cases e2 : vb.toD with
      | none => rw [e1, e2] at e; simp at e
      | some d2 =>
        rw [e1, e2] at e
        simp only at e
        split at e
        · rename_i hm
          have eb : PyData.eqv d d2 = b := Option.some.inj e
          obtain ⟨h1, p1⟩ := hx.toDp r.ext e1
          obtain ⟨h2, p2⟩ := hy.toDp r.ext e2
          refine ⟨d, d2, h1, h2, p1, p2, hm, ?_⟩
          rw [eb]
          exact q.now r (.bl _)
        · cases e
  have fin : ∀ {c : Bool}, c = b → Q (.bl (if neg = true then !c else c)) H := fun {c} ec => by rw [ec]; exact q.now r (.bl _)
  unfold eqV at e
  split at e
  · have ex := hx.int; have ey := hy.int
    subst ex ey
    refine .inl ⟨rfl, fin ?_⟩
    rw [← Option.some.inj e]
    simp
  · have ex := hx.str.1; have ey := hy.str.1
    subst ex ey
    refine .inl ⟨rfl, fin ?_⟩
    rw [← Option.some.inj e]
    simp
  · have ex := hx.bl; have ey := hy.bl
    subst ex ey
    refine .inl ⟨rfl, fin ?_⟩
    rw [← Option.some.inj e]
    simp
  · have ex := hx.non; have ey := hy.non
    subst ex ey
    refine .inl ⟨rfl, fin ?_⟩
    rw [← Option.some.inj e]
    simp
  · exact .inr (gen e)
theorem in_ok (neg : Bool) {b : Bool} (r : RB g F0 H0 F H D) (hx : BRep g F H x va) (hy : BRep g F H y vb) (e : inV va vb = some b) (q : Fin g F H D Q (.bl (if neg = true then !b else b))) :
    rInP g.K neg x y H Q ∨ (∃ (c : Nat) (z : Str), x = .str ⟨#[c]⟩ ∧ y = .str z ∧ Q (.bl (if neg = true then !decide (c ∈ z.cps.toList) else decide (c ∈ z.cps.toList))) H) ∨ rInD neg x y H Q := by
  have fin : ∀ {c : Bool}, c = b → Q (.bl (if neg = true then !c else c)) H := fun {c} ec => by rw [ec]; exact q.now r (.bl _)
  cases vb with
  | lst ys =>
    simp only [inV] at e
    cases e1 : va.toD with
    | none => rw [e1] at e; simp at e
    | some d =>
      cases e2 : PV.toDs ys with
      | none => rw [e1, e2] at e; simp at e
      | some es =>
        rw [e1, e2] at e
        simp only at e
        split at e
        · rename_i hm
          obtain ⟨h1, p1⟩ := hx.toDp r.ext e1
          obtain ⟨h2, p2⟩ := hy.toDp r.ext (d := .list es) (by simp [PV.toD, e2])
          exact .inl ⟨d, es, h1, .inl h2, p1, by simpa [PyData.plain] using p2, hm, fin (Option.some.inj e)⟩
        · cases e
  | tup ys =>
    simp only [inV] at e
    cases e1 : va.toD with
    | none => rw [e1] at e; simp at e
    | some d =>
      cases e2 : PV.toDs ys with
      | none => rw [e1, e2] at e; simp at e
      | some es =>
        rw [e1, e2] at e
        simp only at e
        split at e
        · rename_i hm
          obtain ⟨h1, p1⟩ := hx.toDp r.ext e1
          obtain ⟨h2, p2⟩ := hy.toDp r.ext (d := .tuple es) (by simp [PV.toD, e2])
          exact .inl ⟨d, es, h1, .inr h2, p1, by simpa [PyData.plain] using p2, hm, fin (Option.some.inj e)⟩
        · cases e
  | str z =>
    cases va with
    | str w' =>
      simp only [inV] at e
      split at e
      · rename_i c hc
        have ew : w' = ⟨#[c]⟩ := TL.ext_tl hc
        have ex := hx.str.1
        rw [ew] at ex
        exact .inr (.inl ⟨c, z, ex, hy.str.1, fin (Option.some.inj e)⟩)
      · cases e
    | _ => simp [inV] at e
  | dct kvs =>
    obtain ⟨a, ks, ey, ha, rk, _⟩ := hy.dct r.ext
    cases va with
    | int i =>
      refine .inr (.inr ⟨a, ks, .inl i, ey, ha, hx.int, fin ?_⟩)
      rw [valV_any_int rk]
      exact Option.some.inj e
    | str i =>
      refine .inr (.inr ⟨a, ks, .inr i, ey, ha, hx.str.1, fin ?_⟩)
      rw [valV_any_str rk]
      exact Option.some.inj e
    | _ => cases e
  | _ => cases e
theorem cmp_ok (o : COp) {b : Bool} (r : RB g F0 H0 F H D) (hx : BRep g F H x va) (hy : BRep g F H y vb) (e : cmpV o va vb = some b) (q : Fin g F H D Q (.bl b)) : rCmp g.K o x y H Q := by
  have numC : ∀ (f : Int → Int → Bool), (match va, vb with | .int i, .int j => some (f i j) | _, _ => none) = some b → rI0 (fun i j => .bl (f i j)) x y H Q := fun f e => by
    cases va with
    | int i =>
      cases vb with
      | int j =>
        refine ⟨i, j, hx.int, hy.int, ?_⟩
        show Q (.bl (f i j)) H
        rw [Option.some.inj e]
        exact q.now r (.bl _)
      | _ => cases e
    | _ => cases e
  cases o with
  | lt => exact numC (fun i j => decide (i < j)) (by cases va <;> cases vb <;> exact e)
  | le => exact numC (fun i j => decide (i ≤ j)) (by cases va <;> cases vb <;> exact e)
  | gt => exact numC (fun i j => decide (j < i)) (by cases va <;> cases vb <;> exact e)
  | ge => exact numC (fun i j => decide (j ≤ i)) (by cases va <;> cases vb <;> exact e)
  | eq => exact eq_ok false r hx hy (by cases va <;> cases vb <;> exact e) q
  | ne =>
    have e' : (eqV va vb).map not = some b := by cases va <;> cases vb <;> exact e
    obtain ⟨c, e1, e2⟩ := Option.map_eq_some_iff.mp e'
    subst e2
    exact eq_ok true r hx hy e1 q
  | is =>
    cases vb with
    | non =>
      refine ⟨hy.non, ?_⟩
      have hb := hx.is_non
      have e' : isNonV va = b := by cases va <;> exact Option.some.inj e
      rw [hb, e']
      exact q.now r (.bl _)
    | _ => cases va <;> cases e
  | isnot =>
    cases vb with
    | non =>
      refine ⟨hy.non, ?_⟩
      have hb := hx.is_non
      have e' : (!isNonV va) = b := by cases va <;> exact Option.some.inj e
      rw [hb, e']
      exact q.now r (.bl _)
    | _ => cases va <;> cases e
  | inn => exact in_ok false r hx hy (by cases va <;> cases vb <;> exact e) q
  | nin =>
    have e' : (inV va vb).map not = some b := by cases va <;> cases vb <;> exact e
    obtain ⟨c, e1, e2⟩ := Option.map_eq_some_iff.mp e'
    subst e2
    exact in_ok true r hx hy e1 q

/-! ### items, slices -/
theorem atI_rep {xs : List V} {ds : List PV} {i : Int} (ra : RepAll g F xs ds) (e : atI ds i = some v) : ∃ y, atI xs i = some y ∧ Rep g F y v := by
  unfold atI at e ⊢
  rw [ra.length]
  cases h : ixN ds.length i with
  | none => rw [h] at e; cases e
  | some j =>
    rw [h] at e
    obtain ⟨y, h1, h2⟩ := ra.getD (show ds[j]? = some v from e)
    exact ⟨y, h1, h2⟩
theorem ix_ok (r : RB g F0 H0 F H D) (hx : BRep g F H x va) (hy : BRep g F H y vb) (e : ixV va vb = some v) (hd : ∀ kvs, va ≠ .dct kvs) (q : Fin g F H D Q v) : rIx g.K x y H Q := by
  cases va with
  | lst a =>
    cases vb with
    | int i =>
      obtain ⟨l, xs, rfl, h1, r1, _⟩ := hx.lst r.ext
      obtain ⟨z, e1, e2⟩ := atI_rep r1 (show atI a i = some v from e)
      exact .inl ⟨l, xs, i, z, rfl, hy.int, .inl h1, e1, q.now r e2⟩
    | _ => cases e
  | tup a =>
    cases vb with
    | int i =>
      obtain ⟨l, xs, rfl, h1, r1, _⟩ := hx.tup r.ext
      obtain ⟨z, e1, e2⟩ := atI_rep r1 (show atI a i = some v from e)
      exact .inr (.inl ⟨l, xs, i, z, rfl, hy.int, h1, e1, q.now r e2⟩)
    | _ => cases e
  | str z =>
    cases vb with
    | int i =>
      obtain ⟨c, e1, e2⟩ := Option.map_eq_some_iff.mp (show (atI z.cps.toList i).map (fun c => PV.str ⟨#[c]⟩) = some v from e)
      subst e2
      exact .inr (.inr ⟨z, i, c, hx.str.1, hy.int, hx.str.2, e1, q.now r (.str _ (by show 1 ≤ sizeLine; decide))⟩)
    | _ => cases e
  | _ => cases vb <;> cases e
theorem cut_rep {xs : List V} {ds : List PV} (ra : RepAll g F xs ds) (lo hi : Option Int) : RepAll g F (cutV xs lo hi) (cut ds lo hi) := by
  unfold cutV cut
  rw [ra.length]
  exact (ra.drop _).take _
theorem cut_le {α : Type} (ds : List α) (lo hi : Option Int) : (cut ds lo hi).length ≤ ds.length := by
  unfold cut
  rw [List.length_take, List.length_drop]
  omega
def rSlice (K : PySem.W.Frag) : V → Option Int → Option Int → Hp → VK → Prop := fun x lo hi H Q => rSlL K x lo hi H Q ∨ rSlA K x lo hi H Q ∨ rSlS x lo hi H Q
theorem sl_any {X : Cx} : SlR X (rSlice X.K) := sl_list.or (sl_tupA.or sl_str)
theorem slc_lst {a : List PV} {lo hi : Option Int} (r : RB g F0 H0 F H D) (hx : BRep g F H x (.lst a)) (q : FinL g F H D Q (cut a lo hi)) : rSlice g.K x lo hi H Q := by
  obtain ⟨l, xs, rfl, h1, r1, z⟩ := hx.lst r.ext
  exact .inl ⟨l, xs, rfl, .inl h1, q.laid r (cut_rep r1 lo hi) (Nat.le_trans (cut_le a lo hi) z)⟩
theorem slc_ok {lo hi : Option Int} (r : RB g F0 H0 F H D) (hx : BRep g F H x va) (e : slcV va lo hi = some v) (q : Fin g F H D Q v) : rSlice g.K x lo hi H Q := by
  cases va with
  | lst a => cases e; exact slc_lst r hx q.lst
  | tup a =>
    cases e
    obtain ⟨l, xs, rfl, h1, r1, z⟩ := hx.tup r.ext
    refine .inr (.inl ⟨l, xs, rfl, h1, fun hw => ?_, fun _ => q.tupN r (cut_rep r1 lo hi) (Nat.le_trans (cut_le a lo hi) z)⟩)
    have ec : cut a lo hi = a := by
      unfold cut
      rw [r1.length] at hw
      rw [hw.1, hw.2]
      simp
    rw [ec] at q
    rcases hx with hx | ⟨_, _, o, _⟩
    · exact q.now r hx
    · cases o
  | str z =>
    cases e
    exact .inr (.inr ⟨z, hx.str.1, hx.str.2, q.now r (.str _ (Nat.le_trans (cutS_length z lo hi) hx.str.2))⟩)
  | _ => cases e
end
end BA
/-! BaOps3 -/
set_option linter.all false
set_option maxRecDepth 100000
set_option maxHeartbeats 1000000
/-! BaOps3: built-in functions, isinstance, methods of texts. -/
namespace BA
open PySem PySem.Spec PyProof.Rows L2 LamX

abbrev BAll (g : GD) (F H : Hp) : List V → List PV → Prop := Paired (BRep g F H)
def primN : Prim → Str
  | .len => "len" | .tuple => "tuple" | .list => "list" | .abs => "abs" | .int => "int" | .str => "str" | .all => "all" | .any => "any" | .sum => "sum" | .sorted => "sorted" | .min2 => "min" | .max2 => "max"
def primF : Prim → Value
  | .len => .builtin "len" | .tuple => .type "tuple" | .list => .type "list" | .abs => .builtin "abs" | .int => .type "int" | .str => .type "str" | .all => .builtin "all" | .any => .builtin "any" | .sum => .builtin "sum"
  | .sorted => .builtin "sorted" | .min2 => .builtin "min" | .max2 => .builtin "max"
def rSumT (K : PySem.W.Frag) : List V → Hp → VK → Prop := fun vs H Q => ∃ (a : Addr) (ns : List Int), vs = [V.ref a] ∧ SqT K H a (ns.map V.int) ∧ Q (.int ns.sum) H
section
variable {X : Cx}
theorem cr_sumT (hc : X.calm = true) : CallR X (.builtin "sum") (rSumT X.K) := by
  intro pins s σ H vs us Q I r h
  obtain ⟨a, ns, rfl, hs, q⟩ := h
  obtain ⟨its, rv, ht, _⟩ := I.tuple hs
  rw [Vals.ref1 r]
  have hi := rv.ints
  obtain ⟨xs, hx⟩ := hi.allInts.items
  have hn : numsOf its.toArray.toList = ns := by rw [show its.toArray.toList = its from rfl, hi.numsOf]
  rw [hx] at ht hn
  rw [nums_intItems] at hn
  refine PySem.W.ktm_sumG (I.ok.hd hc) ht fun h' tk t' hk => ?_
  rw [preSum_eq, List.take_of_length_le (by simp), hn]
  exact ⟨.int _, H, I.kept hk, ⟨_, rfl⟩, q⟩
end
def rPrim (K : PySem.W.Frag) : Prim → List V → Hp → VK → Prop
  | .len => fun xs H Q => ∃ x n, xs = [x] ∧ LenV K x H n ∧ Q (.int n) H
  | .tuple => fun xs H Q => ∃ p ys, xs = [.ref p] ∧ ((SqL K H p ys ∧ ∀ l, H l = none → Q (.ref l) (upd H l (.tup ys))) ∨ (SqT K H p ys ∧ Q (.ref p) H))
  | .list => fun xs H Q => ∃ p ys, xs = [.ref p] ∧ (SqL K H p ys ∨ SqT K H p ys) ∧ ∀ l, H l = none → Q (.ref l) (upd H l (.lst ys))
  | .abs => fun xs H Q => ∃ i, xs = [.int i] ∧ Q (.int (if i < 0 then -i else i)) H
  | .int => fun xs H Q => ((∃ i, xs = [.int i] ∧ Q (.int i) H) ∨ ∃ k, xs = [.bl k] ∧ Q (.int (if k then 1 else 0)) H) ∨ ∃ a n, xs = [.str a] ∧ PySem.intText? a = some n ∧ a.length ≤ 640 ∧ Q (.int n) H
  | .str => fun xs H Q => ∃ i, xs = [.int i] ∧ i.natAbs.log2 < 1920 ∧ Q (.str (toString i)) H
  | .all => rAll K
  | .any => rAny K
  | .sum => fun xs H Q => rSum K xs H Q ∨ rSumT K xs H Q
  | .sorted => rSortedI K
  | .min2 => fun xs H Q => ∃ i j, xs = [.int i, .int j] ∧ Q (.int (if j < i then j else i)) H
  | .max2 => fun xs H Q => ∃ i j, xs = [.int i, .int j] ∧ Q (.int (if j > i then j else i)) H
theorem call_prim {X : Cx} (hc : X.calm = true) : ∀ p, CallR X (primF p) (rPrim X.K p)
  | .len => call_len
  | .tuple => call_tuple_of
  | .list => call_list_of
  | .abs => call_abs
  | .int => call_int1.or call_int_str
  | .str => call_str_int
  | .all => cr_all hc
  | .any => cr_any hc
  | .sum => (cr_sum hc).or (cr_sumT hc)
  | .sorted => cr_sortedI
  | .min2 => call_min2 hc
  | .max2 => call_max2 hc
theorem insI_perm (x : Int) : ∀ ns : List Int, (insI x ns).Perm (x :: ns)
  | [] => .refl _
  | y :: ys => by
    unfold insI
    split
    · exact .refl _
    · exact ((insI_perm x ys).cons y).trans (.swap x y ys)
theorem sortI_perm : ∀ ns : List Int, (sortI ns).Perm ns
  | [] => .refl _
  | x :: xs => (insI_perm x _).trans ((sortI_perm xs).cons x)
theorem insI_mem {x z : Int} {ns : List Int} : z ∈ insI x ns ↔ z = x ∨ z ∈ ns := by
  rw [(insI_perm x ns).mem_iff, List.mem_cons]
theorem insI_sorted (x : Int) : ∀ ns : List Int, ns.Pairwise (· ≤ ·) → (insI x ns).Pairwise (· ≤ ·)
  | [], _ => List.pairwise_singleton _ _
  | y :: ys, h => by
    unfold insI
    rw [List.pairwise_cons] at h
    split
    · rename_i hxy
      refine List.pairwise_cons.mpr ⟨fun z hz => ?_, List.pairwise_cons.mpr h⟩
      rcases List.mem_cons.mp hz with rfl | hz
      · exact hxy
      · exact Int.le_trans hxy (h.1 z hz)
    · rename_i hxy
      refine List.pairwise_cons.mpr ⟨fun z hz => ?_, insI_sorted x ys h.2⟩
      rcases insI_mem.mp hz with rfl | hz
      · omega
      · exact h.1 z hz
theorem sortI_sorted : ∀ ns : List Int, (sortI ns).Pairwise (· ≤ ·)
  | [] => .nil
  | x :: xs => insI_sorted x _ (sortI_sorted xs)
theorem sorted_unique : ∀ {a b : List Int}, a.Perm b → a.Pairwise (· ≤ ·) → b.Pairwise (· ≤ ·) → a = b
  | [], b, p, _, _ => (List.Perm.nil_eq p)
  | x :: xs, [], p, _, _ => absurd p.length_eq (by simp)
  | x :: xs, y :: ys, p, ha, hb => by
    rw [List.pairwise_cons] at ha hb
    have h1 : x ≤ y := by
      rcases List.mem_cons.mp (p.mem_iff.mpr (List.mem_cons_self)) with e | h
      · omega
      · exact ha.1 y h
    have h2 : y ≤ x := by
      rcases List.mem_cons.mp (p.mem_iff.mp (List.mem_cons_self)) with e | h
      · omega
      · exact hb.1 x h
    have e : x = y := by omega
    subst e
    rw [sorted_unique (p.cons_inv) ha.2 hb.2]
theorem sortI_eq {ns ms : List Int} (p : ms.Perm ns) (s : ms.Pairwise (· ≤ ·)) : ms = sortI ns := sorted_unique (p.trans (sortI_perm ns).symm) s (sortI_sorted ns)
section
variable {g : GD} {F0 H0 F H F' H' : Hp} {D D' : Dr} {Q : VK} {v va vb : PV} {x y : V}
theorem toString_short {i : Int} (h : i.natAbs.log2 < 1920) : GoodS (Str.ofString (toString i)) := by
  show (Str.ofString (toString i)).length ≤ sizeLine
  have h1 : i.natAbs < 2 ^ 1920 := by
    by_cases h0 : i.natAbs = 0
    · rw [h0]; exact Nat.two_pow_pos _
    · exact (Nat.log2_lt h0).mp h
  have key : ∀ n : Nat, n < 2 ^ 1920 → (TL.numL n).length ≤ 1920 := fun n hn => TL.numL_len (by decide) (Nat.lt_of_lt_of_le hn (Nat.pow_le_pow_left (by decide) _))
  have hz : (1930 : Nat) ≤ sizeLine := by decide
  refine Nat.le_trans ?_ hz
  cases i with
  | ofNat n =>
    have e := TL.tl_num n
    rw [TL.len_tl]
    have e2 : Str.ofString (toString (Int.ofNat n)) = Str.ofString (toString ((n : Nat) : Int)) := rfl
    rw [e2, e]
    have := key n h1
    omega
  | negSucc n =>
    have e2 : toString (Int.negSucc n) = "-" ++ toString (n + 1) := rfl
    rw [TL.len_tl, TL.tl_ofString, e2, String.toList_append, List.map_append, List.length_append]
    have e3 : (toString (n + 1)).toList.map Char.toNat = TL.numL (n + 1) := by
      have := TL.tl_num (n + 1)
      rw [TL.tl_ofString] at this
      exact this
    rw [e3]
    have := key (n + 1) h1
    have h4 : (List.map Char.toNat "-".toList).length = 1 := by decide
    omega
theorem prim_list (r : RB g F0 H0 F H D) {a : List PV} (hx : BRep g F H x (.lst a) ∨ BRep g F H x (.tup a)) (q : FinL g F H D Q a) : rPrim g.K .list [x] H Q := by
  rcases hx with hx | hx
  · obtain ⟨l, xs, rfl, h1, r1, z⟩ := hx.lst r.ext
    exact ⟨l, xs, rfl, .inl (.inl h1), q.laid r r1 z⟩
  · obtain ⟨l, xs, rfl, h1, r1, z⟩ := hx.tup r.ext
    exact ⟨l, xs, rfl, .inr h1, q.laid r r1 z⟩
theorem prim_sorted (r : RB g F0 H0 F H D) {a : List PV} {ns : List Int} (hx : BRep g F H x (.lst a)) (e : allInt a = some ns) (q : FinL g F H D Q ((sortI ns).map .int)) : rPrim g.K .sorted [x] H Q := by
  obtain ⟨l, xs, rfl, h1, r1, z⟩ := hx.lst r.ext
  have ex := r1.of_ints e
  subst ex
  refine ⟨l, ns, rfl, .inl h1, fun ms p hp hs hn => ?_⟩
  rw [sortI_eq hp hs]
  have hl : ((sortI ns).map PV.int).length ≤ sizeLine := by
    rw [List.length_map, (sortI_perm ns).length_eq]
    have := r1.length
    rw [List.length_map] at this
    omega
  exact q.laid r (RepAll.ints _) hl p hn
theorem prim_ok (p : Prim) {xs : List V} {vs : List PV} (r : RB g F0 H0 F H D) (hx : BAll g F H xs vs) (e : primV p vs = some v) (q : Fin g F H D Q v) : rPrim g.K p xs H Q := by
  have one : ∀ {w : PV}, BAll g F H xs [w] → ∃ x, xs = [x] ∧ BRep g F H x w := fun h => by
    cases h with
    | cons h t => cases t; exact ⟨_, rfl, h⟩
  have two : ∀ {w u : PV}, BAll g F H xs [w, u] → ∃ x y, xs = [x, y] ∧ BRep g F H x w ∧ BRep g F H y u := fun h => by
    cases h with
    | cons h t =>
      cases t with
      | cons h' t => cases t; exact ⟨_, _, rfl, h, h'⟩
  unfold primV at e
  split at e
  · obtain ⟨x, rfl, h⟩ := one hx
    obtain ⟨l, xs, rfl, h1, r1, z⟩ := h.lst r.ext
    cases e
    refine ⟨_, xs.length, rfl, .inl ⟨xs, .inl h1, rfl⟩, ?_⟩
    rw [r1.length]
    exact q.now r (.int _)
  · obtain ⟨x, rfl, h⟩ := one hx
    obtain ⟨l, xs, rfl, h1, r1, z⟩ := h.tup r.ext
    cases e
    refine ⟨_, xs.length, rfl, .inr ⟨xs, h1, rfl⟩, ?_⟩
    rw [r1.length]
    exact q.now r (.int _)
  · obtain ⟨x, rfl, h⟩ := one hx
    obtain ⟨rfl, gs⟩ := h.str
    cases e
    exact ⟨_, _, rfl, ⟨gs, rfl⟩, q.now r (.int _)⟩
  · obtain ⟨x, rfl, h⟩ := one hx
    obtain ⟨l, xs, rfl, h1, r1, z⟩ := h.lst r.ext
    cases e
    exact ⟨l, xs, rfl, .inl ⟨.inl h1, q.tupN r r1 z⟩⟩
  · obtain ⟨x, rfl, h⟩ := one hx
    have h' := h
    obtain ⟨l, xs, rfl, h1, r1, z⟩ := h.tup r.ext
    cases e
    refine ⟨l, xs, rfl, .inr ⟨h1, ?_⟩⟩
    rcases h' with hx | ⟨_, _, o, _⟩
    · exact q.now r hx
    · cases o
  · obtain ⟨x, rfl, h⟩ := one hx
    cases e
    exact prim_list r (.inl h) q.lst
  · obtain ⟨x, rfl, h⟩ := one hx
    cases e
    exact prim_list r (.inr h) q.lst
  · obtain ⟨x, rfl, h⟩ := one hx
    cases e
    exact ⟨_, by rw [h.int], q.now r (.int _)⟩
  · obtain ⟨x, rfl, h⟩ := one hx
    cases e
    exact .inl (.inl ⟨_, by rw [h.int], q.now r (.int _)⟩)
  · obtain ⟨x, rfl, h⟩ := one hx
    cases e
    exact .inl (.inr ⟨_, by rw [h.bl], q.now r (.int _)⟩)
  · obtain ⟨x, rfl, h⟩ := one hx
    split at e
    · rename_i hz
      obtain ⟨n, e1, e2⟩ := Option.map_eq_some_iff.mp e
      subst e2
      exact .inr ⟨_, n, by rw [h.str.1], e1, hz, q.now r (.int _)⟩
    · cases e
  · obtain ⟨x, rfl, h⟩ := one hx
    split at e
    · rename_i hz
      cases e
      exact ⟨_, by rw [h.int], hz, q.now r (.str _ (toString_short hz))⟩
    · cases e
  · obtain ⟨x, rfl, h⟩ := one hx
    obtain ⟨bs, e1, e2⟩ := Option.map_eq_some_iff.mp e
    subst e2
    obtain ⟨l, xs, rfl, h1, r1, z⟩ := h.lst r.ext
    have ex := r1.of_bls e1
    subst ex
    exact ⟨l, bs, rfl, .inl h1, q.now r (.bl _)⟩
  · obtain ⟨x, rfl, h⟩ := one hx
    obtain ⟨bs, e1, e2⟩ := Option.map_eq_some_iff.mp e
    subst e2
    obtain ⟨l, xs, rfl, h1, r1, z⟩ := h.lst r.ext
    have ex := r1.of_bls e1
    subst ex
    exact ⟨l, bs, rfl, .inl h1, q.now r (.bl _)⟩
  · obtain ⟨x, rfl, h⟩ := one hx
    obtain ⟨bs, e1, e2⟩ := Option.map_eq_some_iff.mp e
    subst e2
    obtain ⟨l, xs, rfl, h1, r1, z⟩ := h.lst r.ext
    have ex := r1.of_ints e1
    subst ex
    exact .inl ⟨l, bs, rfl, .inl h1, q.now r (.int _)⟩
  · obtain ⟨x, rfl, h⟩ := one hx
    obtain ⟨bs, e1, e2⟩ := Option.map_eq_some_iff.mp e
    subst e2
    obtain ⟨l, xs, rfl, h1, r1, z⟩ := h.tup r.ext
    have ex := r1.of_ints e1
    subst ex
    exact .inr ⟨l, bs, rfl, h1, q.now r (.int _)⟩
  · obtain ⟨x, rfl, h⟩ := one hx
    obtain ⟨bs, e1, e2⟩ := Option.map_eq_some_iff.mp e
    subst e2
    exact prim_sorted r h e1 q.lst
  · obtain ⟨x, y, rfl, h1, h2⟩ := two hx
    cases e
    exact ⟨_, _, by rw [h1.int, h2.int], q.now r (.int _)⟩
  · obtain ⟨x, y, rfl, h1, h2⟩ := two hx
    cases e
    exact ⟨_, _, by rw [h1.int, h2.int], q.now r (.int _)⟩
  · cases e

/-! ### isinstance -/
/-- the class of a value -/
def cTV (g : GD) : CT → V
  | .int => .ty "int" | .bool => .ty "bool" | .str => .ty "str" | .list => .ty "list" | .tuple => .ty "tuple" | .dict => .ty "dict" | .own c => .ref (g.cA c)
theorem clsV (g : GD) : ∀ c, ClsV (cTV g c) (cTv g c)
  | .int => .ty _ | .bool => .ty _ | .str => .ty _ | .list => .ty _ | .tuple => .ty _ | .dict => .ty _ | .own _ => .own _
/-- what K says of isinstance -/
def IsaOk (g : GD) (T : Tab) : Prop := ∀ (v : PV) (c : CT) (b : Bool), isOne T v c = some b → PySem.W.kitOne g.K (kT g v) (cTv g c) = some b
theorem isAny_kit {T : Tab} (h : IsaOk g T) : ∀ {cs : List CT} {b : Bool}, isAny T v cs = some b → PySem.W.kitAny g.K (kT g v) (cs.map (cTv g)) = some b
  | [], b, e => by cases e; rfl
  | c :: cs, b, e => by
    simp only [isAny] at e
    cases e1 : isOne T v c with
    | none => rw [e1] at e; cases e
    | some k =>
      rw [e1] at e
      have hk := h v c k e1
      rw [List.map_cons]
      cases k with
      | true => cases e; exact kitAny_cons hk (fun z => nomatch z) (fun _ => rfl)
      | false => exact kitAny_cons hk (fun _ => isAny_kit h e) (fun z => nomatch z)

/-! ### methods of texts -/
def mthN : Mth → Str
  | .split => "split" | .join => "join" | .startswith => "startswith"
def mthI : Mth → String
  | .split => "str.split" | .join => "str.join" | .startswith => "str.startswith"
def rMth (K : PySem.W.Frag) : Mth → V → List V → Hp → VK → Prop
  | .split => fun x xs H Q => ∃ a b, x = .str a ∧ xs = [.str b] ∧ (b.length == 0) = false ∧ a.length + 2 ≤ sizeLine ∧ rNewStrs (Txt.split a b) H Q
  | .join => fun x xs H Q => ∃ a p, ∃ ys : List Str, x = .str a ∧ xs = [.ref p] ∧ (SqL K H p (ys.map V.str) ∨ SqT K H p (ys.map V.str)) ∧ (ys.map (·.length)).sum + ys.length * a.length ≤ 16777216 ∧ Q (.str (Txt.join a ys)) H
  | .startswith => fun x xs H Q => ∃ a b, x = .str a ∧ xs = [.str b] ∧ Q (.bl (Txt.startswith a b)) H
theorem mt_any {X : Cx} : ∀ m, MtR X (mthI m) (rMth X.K m)
  | .split => mt_split
  | .join => mt_join
  | .startswith => mt_startswith
theorem repAll_strs : ∀ {ys : List Str}, (∀ z ∈ ys, GoodS z) → RepAll g F (ys.map V.str) (ys.map PV.str)
  | [], _ => .nil
  | y :: ys, h => .cons (.str y (h y List.mem_cons_self)) (repAll_strs fun z hz => h z (List.mem_cons_of_mem _ hz))
end
end BA
/-! BaWp -/
set_option linter.all false
set_option maxRecDepth 100000
set_option maxHeartbeats 1000000
/-! BaWp: what a piece of code asks, by its meaning; the matching of the text with the code. -/
namespace BA
open PySem PySem.Spec PyProof.Rows L2 LamX

/-- a law's world -/
structure LW where
  P : Program
  w : World
  base : Heap
  mg : Str → Option Value
  g : GD
  T : Tab
  nm : NM
  F : List FE
  fA : Nat → Addr
  fD : Nat → FuncData

/-! ### what follows -/
def ExR (g : GD) (F : Hp) (od : Option Addr) (c : Nat) (fs : List PV) : Prop :=
  (od = none ∧ fs = []) ∨ ∃ dd vs, od = some dd ∧ F dd = some (.xd ((g.flds c).zip vs)) ∧ vs.length = (g.flds c).length ∧ RepAll g F vs fs
def PostM (g : GD) (W : XK) (F H : Hp) {α : Type} (R : α → Dr → Prop) : Option (Out α × Dr) → Prop
  | none => False
  | some (.ok a, D') => R a D'
  | some (.exn c fs, D') => ∀ F' H' od, RB g F H F' H' D' → ExR g F' od c fs → W (.ref (g.cA c)) od H'
def FinB (g : GD) (F H : Hp) (D : Dr) (Q : VK) (v : PV) : Prop := ∀ F' H' x, RB g F H F' H' D → BRep g F' H' x v → Q x H'
def FinA (g : GD) (F H : Hp) (D : Dr) (Q : List V → Hp → Prop) (vs : List PV) : Prop := ∀ F' H' xs, RB g F H F' H' D → RepAll g F' xs vs → Q xs H'
def FinAB (g : GD) (F H : Hp) (D : Dr) (Q : List V → Hp → Prop) (vs : List PV) : Prop := ∀ F' H' xs, RB g F H F' H' D → BAll g F' H' xs vs → Q xs H'
def FinT (g : GD) (F H : Hp) (D : Dr) (Q : Bool → Hp → Prop) (b : Bool) : Prop := ∀ F' H', RB g F H F' H' D → Q b H'
section
variable {g : GD} {W : XK} {F0 H0 F H F' H' : Hp} {D D' : Dr} {α β : Type} {R R' : α → Dr → Prop} {o : Option (Out α × Dr)}
theorem PostM.mono (h : PostM g W F H R o) (i : ∀ a D', R a D' → R' a D') : PostM g W F H R' o := by
  cases o with
  | none => exact h
  | some p =>
    obtain ⟨q, d⟩ := p
    cases q with
    | ok a => exact i a d h
    | exn c fs => exact h
theorem PostM.bind {m : M β} {k : β → M α} (h : PostM g W F H R ((m >>= k) D)) : PostM g W F H (fun a D' => PostM g W F H R (k a D')) (m D) := by
  rw [M.bind_eq] at h
  cases e : m D with
  | none => rw [e] at h; exact h
  | some p =>
    rw [e] at h
    obtain ⟨q, d⟩ := p
    cases q with
    | ok a => exact h
    | exn c fs => exact h
theorem PostM.shift {D1 : Dr} (q : RB g F H F' H' D1) (h : PostM g W F H R o) : PostM g W F' H' R o := by
  cases o with
  | none => exact h
  | some p =>
    obtain ⟨y, d⟩ := p
    cases y with
    | ok a => exact h
    | exn c fs => exact fun F2 H2 od r e => h F2 H2 od (q.trans r) e
theorem PostM.lift {p : Option α} (h : PostM g W F H R ((M.lift p : M α) D)) : ∃ a, p = some a ∧ R a D := by
  cases p with
  | none => exact h.elim
  | some a => exact ⟨a, rfl, h⟩
theorem Fin.shift {Q : VK} {v : PV} {D1 : Dr} (q : RB g F H F' H' D1) (h : Fin g F H D Q v) : Fin g F' H' D Q v := fun F2 H2 x r hx => h F2 H2 x (q.trans r) hx
theorem FinL.shift {Q : VK} {v : List PV} {D1 : Dr} (q : RB g F H F' H' D1) (h : FinL g F H D Q v) : FinL g F' H' D Q v := fun F2 H2 p xs r hp ra z hF h0 => h F2 H2 p xs (q.trans r) hp ra z hF (q.nt_of h0)
theorem FinB.fin {Q : VK} {v : PV} (h : FinB g F H D Q v) : Fin g F H D Q v := fun F2 H2 x r hx => h F2 H2 x r (.of hx)
end
section
variable (L : LW) (n : Nat) (W : XK)
noncomputable def LW.call : Nat → List PV → M PV := callN L.T L.F n
def tE (ie : IE) : TE := fun σ H Q => ∃ F0 H0 F S D, RB L.g F0 H0 F H D ∧ SL L.g H0 F H σ S ∧ PostM L.g W F H (fun v D' => Fin L.g F H D' Q v) (evE L.T (L.call n) ie S D)
def tB (ie : IE) : TE := fun σ H Q => ∃ F0 H0 F S D, RB L.g F0 H0 F H D ∧ SL L.g H0 F H σ S ∧ PostM L.g W F H (fun v D' => FinB L.g F H D' Q v) (evE L.T (L.call n) ie S D)
def tA (as : IA) : TA := fun σ H Q => ∃ F0 H0 F S D, RB L.g F0 H0 F H D ∧ SL L.g H0 F H σ S ∧ PostM L.g W F H (fun v D' => FinA L.g F H D' Q v) (evA L.T (L.call n) as S D)
def tAB (as : IA) : TA := fun σ H Q => ∃ F0 H0 F S D, RB L.g F0 H0 F H D ∧ SL L.g H0 F H σ S ∧ PostM L.g W F H (fun v D' => FinAB L.g F H D' Q v) (evA L.T (L.call n) as S D)
def tT (ie : IE) : TT := fun σ H Q => ∃ F0 H0 F S D, RB L.g F0 H0 F H D ∧ SL L.g H0 F H σ S ∧ PostM L.g W F H (fun v D' => FinT L.g F H D' Q v) ((evE L.T (L.call n) ie S >>= fun v => M.lift (truV v)) D)
/-- a new list, kept for oneself -/
def tO (ie : IE) : TE := fun σ H Q => ∃ F0 H0 F S D, RB L.g F0 H0 F H D ∧ SL L.g H0 F H σ S ∧ PostM L.g W F H (fun v D' => ∃ ds, v = .lst ds ∧ FinL L.g F H D' Q ds) (evE L.T (L.call n) ie S D)
/-- what a def promises -/
def spI (f k : Nat) : Sp := fun vs H Q E => vs.length = k ∧ ∃ F0 H0 F D pvs, RB L.g F0 H0 F H D ∧ RepAll L.g F vs pvs ∧ PostM L.g E F H (fun v D' => Fin L.g F H D' Q v) (L.call n f pvs D)
end

/-! ### the matching -/
structure MP where
  nm : NM
  T : Tab
  N : List Str
  lam : Bool
def visB (sc : Scope) (x : Str) : Bool := decide (sc.names.lookup x = some .local) || decide (sc.names.lookup x = some .cell) || decide (sc.names.lookup x = some .free)
def locB (sc : Scope) (x : Str) : Bool := decide (sc.names.lookup x = some .local) || decide (sc.names.lookup x = some .cell)
def glB (sc : Scope) (x : Str) : Bool := decide (sc.names.lookup x = some .globalImplicit)
def okN (x : Str) : Bool := !(x == ("__debug__" : Str)) && !(x == ("__classdict__" : Str))
def nostarB : Expr → Bool
  | .Starred .. => false
  | _ => true
def nosetB : Expr → Bool
  | .Set .. => false
  | _ => true
def nocallB : Expr → Bool
  | .Call .. => false
  | _ => true
def nosliceB : Expr → Bool
  | .Slice .. => false
  | _ => true
def nocompB : Expr → Bool
  | .ListComp .. => false
  | .SetComp .. => false
  | .DictComp .. => false
  | _ => true
/-- a test by its value -/
def plainB : Expr → Bool
  | .UnaryOp .. => false
  | .BoolOp .. => false
  | .IfExp .. => false
  | .Compare .. => false
  | _ => true
def bopB : BOp → Operator → Bool
  | .add, .Add => true
  | .sub, .Sub => true
  | .mul, .Mult => true
  | .fdiv, .FloorDiv => true
  | .mod, .Mod => true
  | .pow, .Pow => true
  | _, _ => false
def copB : COp → CmpOp → Bool
  | .lt, .Lt => true
  | .le, .LtE => true
  | .gt, .Gt => true
  | .ge, .GtE => true
  | .eq, .Eq => true
  | .ne, .NotEq => true
  | .is, .Is => true
  | .isnot, .IsNot => true
  | .inn, .In => true
  | .nin, .NotIn => true
  | _, _ => false
def IE.isB : IE → Bool
  | .bvar _ => true
  | _ => false
def cstB : PV → Expr → Bool
  | .int j, .Constant (.int i) _ _ => decide (i = j)
  | .bl j, .Constant (.bool i) _ _ => decide (i = j)
  | .str j, .Constant (.str i) _ _ => decide (i = j) && decide (j.length ≤ 1000)
  | .non, .Constant .none _ _ => true
  | _, _ => false
def ctN : CT → Option Str
  | .int => some "int" | .bool => some "bool" | .str => some "str" | .list => some "list" | .tuple => some "tuple" | .dict => some "dict" | .own _ => none
/-- a class's name -/
def ctB (P : MP) (sc : Scope) (c : CT) (e : Expr) : Bool := match e with
  | .Name x _ => glB sc x && okN x && (match c with
    | .own k => decide (P.nm.cls[k]? = some x)
    | c => decide (ctN c = some x))
  | _ => false
def ctsB (P : MP) (sc : Scope) : List CT → List Expr → Bool
  | [], [] => true
  | c :: cs, e :: es => ctB P sc c e && ctsB P sc cs es
  | _, _ => false
mutual
def mT (P : MP) (sc : Scope) : IT → Expr → Bool
  | .nm i, e => match e with
    | .Name x _ => decide (P.N[i]? = some x) && locB sc x
    | _ => false
  | .tp ts, e => match e with
    | .Tuple es _ _ => mTs P sc ts es
    | _ => false
def mTs (P : MP) (sc : Scope) : List IT → List Expr → Bool
  | [], [] => true
  | t :: ts, e :: es => nostarB e && mT P sc t e && mTs P sc ts es
  | _, _ => false
end
/-- a lambda without parameters -/
def noparB : Arguments → Bool
  | ⟨[], [], none, [], [], none, []⟩ => true
  | _ => false
def isTupB : Expr → Bool
  | .Tuple .. => true
  | _ => false
/-- how many, none of them starred -/
def IA.len : IA → Nat
  | .nil => 0
  | .cons _ as => as.len + 1
  | .star _ as => as.len
def IA.plain : IA → Bool
  | .nil => true
  | .cons _ as => as.plain
  | .star _ _ => false
/-- it makes a new list -/
def IE.freshB : IE → Bool
  | .lst _ => true
  | .cmp1 .. => true
  | .cmp2 .. => true
  | .lrng _ => true
  | .rev _ => true
  | .prm .list _ => true
  | .prm .sorted _ => true
  | .bin .add _ _ => true
  | .slc .. => true
  | .nev => true
  | _ => false
/-- the block's own names, by their slots -/
def ownOf (N : List Str) (vs : List Nat) : List (Str × Nat) := vs.map fun i => (N.getD i Str.empty, i)
mutual
def mE : IE → MP → Scope → Expr → Bool
  | .var i, P, sc, e => match e with
    | .Name x _ => decide (P.N[i]? = some x) && visB sc x && okN x
    | _ => false
  | .bvar i, P, sc, e => match e with
    | .Name x _ => decide (P.N[i]? = some x) && visB sc x && okN x
    | _ => false
  | .cst v, P, _, e => cstB v e
  | .glb k, P, sc, e => match e with
    | .Name x _ => decide ((P.T.consts[k]?).map (·.1) = some x) && glB sc x && okN x
    | _ => false
  | .tup as, P, sc, e => match e with
    | .Tuple es _ _ => mA as P true false sc es && as.plain && decide (as.len ≤ 1000)
    | _ => false
  | .tups as, P, sc, e => match e with
    | .Tuple es _ _ => mA as P true true sc es
    | _ => false
  | .lst as, P, sc, e => match e with
    | .List es _ => mA as P true false sc es && as.plain && decide (as.len ≤ 1000)
    | _ => false
  | .bin o a b, P, sc, e => match e with
    | .BinOp x p y _ => bopB o p && mE a P sc x && mE b P sc y
    | _ => false
  | .neg a, P, sc, e => match e with
    | .UnaryOp p x _ => decide (p = .USub) && mE a P sc x
    | _ => false
  | .cmp o a b, P, sc, e => match e with
    | .Compare x [p] [y] _ => copB o p && mE a P sc x && mE b P sc y && !behindInMarks p y
    | _ => false
  | .chn o1 o2 a b c, P, sc, e => match e with
    | .Compare x [p, q] [y, z] _ => copB o1 p && copB o2 q && mE a P sc x && mE b P sc y && mE c P sc z && !behindInMarks q z
    | _ => false
  | .not a, P, sc, e => match e with
    | .UnaryOp p x _ => decide (p = .Not) && mE a P sc x && !a.isB
    | _ => false
  | .and a b, P, sc, e => match e with
    | .BoolOp .And (x :: y :: r) pos => mE a P sc x && (match r with
      | [] => mE b P sc y
      | z :: r' => mE b P sc (.BoolOp .And (y :: z :: r') pos)) && !a.isB && !b.isB
    | _ => false
  | .or a b, P, sc, e => match e with
    | .BoolOp .Or (x :: y :: r) pos => mE a P sc x && (match r with
      | [] => mE b P sc y
      | z :: r' => mE b P sc (.BoolOp .Or (y :: z :: r') pos)) && !a.isB && !b.isB
    | _ => false
  | .ite c a b, P, sc, e => match e with
    | .IfExp z x y _ => mE c P sc z && mE a P sc x && mE b P sc y && !a.isB && !b.isB && !c.isB
    | _ => false
  | .ix a b, P, sc, e => match e with
    | .Subscript x y _ => nosliceB y && mE a P sc x && mE b P sc y
    | _ => false
  | .slc a lo hi, P, sc, e => match e with
    | .Subscript x (.Slice l h none _) _ => mE a P sc x && (match l with
      | none => lo.isNil
      | some l => !lo.isNil && mE lo P sc l) && (match h with
      | none => hi.isNil
      | some h => !hi.isNil && mE hi P sc h)
    | _ => false
  | .nil, P, _, _ => false
  | .fld a f, P, sc, e => match e with
    | .Attribute x n _ => nocallB x && mE a P sc x && decide (P.nm.fld[f]? = some n)
    | _ => false
  | .cal f as, P, sc, e => match e with
    | .Call (.Name x _) es [] _ => (match P.nm.fns[f]? with
      | some q => decide (q.1 = x) && decide (q.2.length = es.length)
      | none => false) && glB sc x && okN x && !es.isEmpty && mA as P true false sc es
    | _ => false
  | .calk f as ks, P, sc, e => match e with
    | .Call (.Name x _) es kws _ => (match P.nm.fns[f]? with
      | some q => decide (q.1 = x) && decide (kws.map (·.arg) = (q.2.drop es.length).map some) && decide (es.length + kws.length = q.2.length)
      | none => false) && glB sc x && okN x && mA as P true false sc es && mK ks P sc kws
    | _ => false
  | .prm p as, P, sc, e => match e with
    | .Call (.Name x _) es [] _ => decide (x = primN p) && glB sc x && !es.isEmpty && mA as P false false sc es
    | _ => false
  | .isi a ts, P, sc, e => match e with
    | .Call (.Name x _) [y, z] [] _ => decide (x = "isinstance") && glB sc x && mE a P sc y && nostarB y && nostarB z && (match z with
      | .Tuple es _ _ => es.all nostarB && ctsB P sc ts es && !es.isEmpty && decide (es.length ≤ 1000)
      | z => ctsB P sc ts [z])
    | _ => false
  | .mth m a b, P, sc, e => match e with
    | .Call (.Attribute o x apos) [y] [] cpos => decide (x = mthN m) && nocallB o && decide (apos.endLine = cpos.line) && mE a P sc o && nostarB y && mE b P sc y
    | _ => false
  | .lrng a, P, sc, e => match e with
    | .Call (.Name x _) [.Call (.Name y _) [z] [] _] [] _ => decide (x = "list") && decide (y = "range") && glB sc x && glB sc y && nostarB z && mE a P sc z
    | _ => false
  | .cmp1 t it cond elt, P, sc, e => match e with
    | .ListComp x [⟨tg, iter, ifs, k⟩] scope _ => decide (k = 0) && mI it P true sc tg iter && nosetB iter && blkC P.N sc scope (ownOf P.N t.slots) && mT P (relS scope sc) t tg && (match ifs with
      | [] => cond.isNil
      | [c] => !cond.isNil && !cond.isB && mE cond { P with lam := false } (relS scope sc) c
      | _ => false) && mE elt { P with lam := false } (relS scope sc) x && !elt.isB && decide (scope.kind = .function) && t.slots.all fun i => match P.N[i]? with
        | some y => decide ((relS scope sc).names.lookup y = some .local) || decide (scope.names.lookup y = some .cell)
        | none => false
    | _ => false
  | .cmp2 t it cond u iu cu elt, P, sc, e => match e with
    | .ListComp x [⟨tg, iter, ifs, k⟩, ⟨tg', iter', ifs', k'⟩] scope _ => decide (k = 0) && decide (k' = 0) && mI it P true sc tg iter && nosetB iter && nosetB iter' && blkC P.N sc scope (ownOf P.N (t.slots ++ u.slots)) && mT P (relS scope sc) t tg && mT P (relS scope sc) u tg' &&
      mI iu { P with lam := false } false (relS scope sc) tg' iter' && (match ifs with
      | [] => cond.isNil
      | [c] => !cond.isNil && !cond.isB && mE cond { P with lam := false } (relS scope sc) c
      | _ => false) && (match ifs' with
      | [] => cu.isNil
      | [c] => !cu.isNil && !cu.isB && mE cu { P with lam := false } (relS scope sc) c
      | _ => false) && mE elt { P with lam := false } (relS scope sc) x && !elt.isB && decide (scope.kind = .function) && (t.slots ++ u.slots).all fun i => match P.N[i]? with
        | some y => decide ((relS scope sc).names.lookup y = some .local) || decide (scope.names.lookup y = some .cell)
        | none => false
    | _ => false
  | .rev a, P, sc, e => match e with
    | .Subscript x (.Slice none none (some (.UnaryOp .USub (.Constant (.int i) _ _) _)) _) _ => decide (i = 1) && mE a P sc x
    | _ => false
  | .cau a, P, sc, e => match e with
    | .Call (.Name x _) [.Lambda ps b scope _] [] _ => P.lam && decide (x = "_law_caught") && glB sc x && lamSB sc scope && mE a { P with lam := false } scope b && noparB ps && !a.isB
    | _ => false
  | .drd t i, P, sc, e => match e with
    | .Subscript (.Name x _) (.Constant (.str k) _ _) _ => decide (P.N[i]? = some x) && visB sc x && okN x && decide (k = if t = true then "turn" else "rest")
    | _ => false
  | .dcl i, P, sc, e => match e with
    | .Subscript (.Name x _) (.Constant (.str k) _ _) _ => decide (P.N[i]? = some x) && visB sc x && okN x && decide (k = "cells")
    | _ => false
  | .dne i, P, sc, e => match e with
    | .Compare (.Subscript (.Name x _) (.Constant (.str k) _ _) _) [p] [.List [] _] _ => decide (P.N[i]? = some x) && visB sc x && okN x && decide (k = "large") && decide (p = .NotEq)
    | _ => false
  | .dpp i, P, sc, e => match e with
    | .Call (.Attribute (.Subscript (.Name x _) (.Constant (.str k) _ _) _) f ap) [.Constant (.int z) _ _] [] cp => decide (P.N[i]? = some x) && visB sc x && okN x && decide (k = "large") && decide (f = "pop") && decide (z = 0) && decide (ap.endLine = cp.line)
    | _ => false
  | .nev, P, _, _ => true
termination_by structural ie => ie
def mA : IA → MP → Bool → Bool → Scope → List Expr → Bool
  | .nil, P, _, _, _, es => match es with
    | [] => true
    | _ => false
  | .cons a as, P, strong, star, sc, es => match es with
    | x :: xs => nostarB x && mE a P sc x && (!strong || !a.isB) && mA as P strong star sc xs
    | [] => false
  | .star a as, P, strong, star, sc, es => match es with
    | .Starred x _ :: xs => star && mE a P sc x && !a.isB && mA as P strong star sc xs
    | _ => false
termination_by structural as => as
def mK : IA → MP → Scope → List Keyword → Bool
  | .nil, P, _, ks => match ks with
    | [] => true
    | _ => false
  | .cons a as, P, sc, ks => match ks with
    | ⟨nm, x, _⟩ :: xs => nm.isSome && mE a P sc x && !a.isB && mK as P sc xs
    | [] => false
  | .star _ _, P, _, _ => false
termination_by structural as => as
def mI : II → MP → Bool → Scope → Expr → Expr → Bool
  | .seq a, P, w, sc, _, e => mE a P sc e && (w || !a.isB)
  | .rng1 a, P, _, sc, _, e => match e with
    | .Call (.Name x _) [y] [] _ => decide (x = "range") && glB sc x && nostarB y && mE a P sc y
    | _ => false
  | .rng2 a b, P, _, sc, _, e => match e with
    | .Call (.Name x _) [y, z] [] _ => decide (x = "range") && glB sc x && nostarB y && nostarB z && mE a P sc y && mE b P sc z
    | _ => false
  | .rng3 a b c, P, _, sc, _, e => match e with
    | .Call (.Name x _) [y, z, u] [] _ => decide (x = "range") && glB sc x && nostarB y && nostarB z && nostarB u && mE a P sc y && mE b P sc z && mE c P sc u
    | _ => false
  | .enm a, P, w, sc, tg, e => match e with
    | .Call (.Name x _) [y] [] _ => decide (x = "enumerate") && glB sc x && nostarB y && mE a P sc y && isTupB tg && (w || !a.isB)
    | _ => false
  | .zip a b, P, w, sc, tg, e => match e with
    | .Call (.Name x _) [y, z] [] _ => decide (x = "zip") && glB sc x && nostarB y && nostarB z && mE a P sc y && mE b P sc z && isTupB tg && (w || (!a.isB && !b.isB))
    | _ => false
  | .chr a, P, _, sc, _, e => mE a P sc e
termination_by structural it => it
end
/-! ### statements -/
def compB : Expr → Bool
  | .ListComp .. => true
  | .SetComp .. => true
  | .DictComp .. => true
  | _ => false
def notTupB : Expr → Bool
  | .Tuple .. => false
  | .List .. => false
  | _ => true
/-- a comprehension that is stored at once: the name's own line, the name is a local -/
def compStB (sc : Scope) (x : Str) (px : Pos) : Expr → Bool
  | .ListComp _ _ scope pos => decide (sc.names.lookup x = some .local) && (px.line == pos.line) && !(scope.names.any fun (n, k) => n == x && (k == .local || k == .cell))
  | _ => false
def locOnly (sc : Scope) (x : Str) : Bool := decide (sc.names.lookup x = some .local)
def IS.isFrz : IS → Bool
  | .frz _ => true
  | _ => false
mutual
def mS : IS → MP → Scope → Stmt → Bool
  | .asg t e, P, sc, st => match st with
    | .Assign [tg] x _ => mE e P sc x && !e.isB && mT P sc t tg && (match tg with
      | .Name y py => !compB x || compStB sc y py x
      | .Tuple .. => !compB x && notTupB x
      | _ => false)
    | _ => false
  | .own i e, P, sc, st => match st with
    | .Assign [.Name y py] x _ => mE e P sc x && e.freshB && decide (P.N[i]? = some y) && locB sc y && (!compB x || compStB sc y py x)
    | _ => false
  | .par i j oi oj a b, P, sc, st => match st with
    | .Assign [.Tuple [.Name x px, .Name y py] _ _] (.Tuple [u, v] _ _) _ => decide (i ≠ j) && decide (P.N[i]? = some x) && decide (P.N[j]? = some y) && locOnly sc x && locOnly sc y && nostarB u && nostarB v && (py.line == px.line) &&
      !([u, v].all (foldedForSure 8)) && !([u, v].all (constantsAlone 8)) && mE a P sc u && mE b P sc v && (if oi = true then a.freshB else !a.isB) && (if oj = true then b.freshB else !b.isB)
    | _ => false
  | .seti _ _ _, _, _, _ => false
  | .app i e, P, sc, st => match st with
    | .Expr (.Call (.Attribute (.Name x _) f ap) [y] [] cp) _ => decide (f = "append") && decide (P.N[i]? = some x) && visB sc x && okN x && decide (ap.endLine = cp.line) && nostarB y && mE e P sc y && !e.isB
    | _ => false
  | .appP i j e, P, sc, st => match st with
    | .Expr (.Call (.Attribute (.Name x _) f ap) [.Call (.Attribute (.Name y _) f' ap') [z] [] cp'] [] cp) _ => decide (i ≠ j) && decide (f = "append") && decide (f' = "pop") && decide (P.N[i]? = some x) && visB sc x && okN x && decide (P.N[j]? = some y) && visB sc y && okN y &&
      decide (ap.endLine = cp.line) && decide (ap'.endLine = cp'.line) && nostarB z && mE e P sc z
    | _ => false
  | .pop i j, P, sc, st => match st with
    | .Assign [.Name x _] (.Call (.Attribute (.Name y _) f ap) [] [] cp) _ => decide (i ≠ j) && decide (f = "pop") && decide (P.N[i]? = some x) && locB sc x && decide (P.N[j]? = some y) && visB sc y && okN y && decide (ap.endLine = cp.line)
    | _ => false
  | .exp e, P, sc, st => match st with
    | .Expr x _ => !compB x && mE e P sc x
    | _ => false
  | .ret e, P, sc, st => match st with
    | .Return (some x) _ => mE e P sc x && !e.isB
    | _ => false
  | .retn, _, _, st => match st with
    | .Return none _ => true
    | _ => false
  | .iff c a b, P, sc, st => match st with
    | .If x ys zs _ => mE c P sc x && !c.isB && mB a P sc ys && mB b P sc zs
    | _ => false
  | .for_ t it b, P, sc, st => match st with
    | .For tg iter body [] _ => mI it P false sc tg iter && nosetB iter && mT P sc t tg && mB b P sc body
    | _ => false
  | .whl c b, P, sc, st => match st with
    | .While x body [] _ => mE c P sc x && !c.isB && mB b P sc body
    | _ => false
  | .brk, _, _, st => match st with
    | .Break _ => true
    | _ => false
  | .cnt, _, _, st => match st with
    | .Continue _ => true
    | _ => false
  | .pas, _, _, st => match st with
    | .Pass _ => true
    | _ => false
  | .rai c, P, sc, st => match st with
    | .Raise (some (.Call (.Name x _) [.Constant (.str _) _ _] [] _)) none _ => decide (P.nm.cls[c]? = some x) && decide (P.T.exc[c]? = some true) && glB sc x && okN x && decide ((P.T.flds.getD c []) = [])
    | _ => false
  | .raia c e, P, sc, st => match st with
    | .Raise (some (.Call (.Name x _) [y] [] _)) none _ => decide (P.nm.cls[c]? = some x) && decide (P.T.exc[c]? = some true) && glB sc x && okN x && nostarB y && decide ((P.T.flds.getD c []).length = 1) && mE e P sc y && !e.isB
    | _ => false
  | .frz _, _, _, _ => false
  | .dst t i e, P, sc, st => match st with
    | .Assign [.Subscript (.Name x _) (.Constant (.str k) _ _) _] y _ => decide (P.N[i]? = some x) && visB sc x && okN x && decide (k = if t = true then "turn" else "rest") && mE e P sc y && !e.isB && !compB y
    | _ => false
termination_by structural s => s
def mB : IB → MP → Scope → List Stmt → Bool
  | .nil, _, _, sts => match sts with
    | [] => true
    | _ => false
  | .cons s b, P, sc, sts => if s.isFrz = true then mB b P sc sts else match sts with
    | st :: sts => mS s P sc st && mB b P sc sts
    | [] => false
termination_by structural b => b
end
end BA
/-! BaEq -/
set_option linter.all false
set_option maxRecDepth 100000
set_option maxHeartbeats 1000000
/-! BaEq: one equation for each arm of the meaning and of the matching (printed by geneq.sh). -/
namespace BA
open PySem L2 LamX
section
variable {T : Tab} {call : Nat → List PV → M PV}
theorem evE_var {i S} : evE T call (.var i) S = (match S[i]? with
    | some (.val v) => pure v
    | _ => M.stuck) := rfl
theorem evE_bvar {i S} : evE T call (.bvar i) S = (match S[i]? with
    | some (.val v) => pure v
    | some (.own v) => pure v
    | _ => M.stuck) := rfl
theorem evE_cst {v u0} : evE T call (.cst v) u0 = (pure v) := rfl
theorem evE_glb {k u0} : evE T call (.glb k) u0 = (match T.consts[k]? with
    | some p => pure p.2
    | none => M.stuck) := rfl
theorem evE_tup {as S} : evE T call (.tup as) S = (evA T call as S >>= fun vs => pure (.tup vs)) := rfl
theorem evE_tups {as S} : evE T call (.tups as) S = (evA T call as S >>= fun vs => M.lift (if vs.length ≤ sizeLine then some (.tup vs) else none)) := rfl
theorem evE_lst {as S} : evE T call (.lst as) S = (evA T call as S >>= fun vs => pure (.lst vs)) := rfl
theorem evE_bin {op a b S} : evE T call (.bin op a b) S = (evE T call a S >>= fun x => evE T call b S >>= fun y => M.lift (binV op x y)) := rfl
theorem evE_neg {a S} : evE T call (.neg a) S = (evE T call a S >>= fun x => M.lift ((intV x).map fun i => .int (-i))) := rfl
theorem evE_cmp {op a b S} : evE T call (.cmp op a b) S = (evE T call a S >>= fun x => evE T call b S >>= fun y => M.lift ((cmpV op x y).map .bl)) := rfl
theorem evE_chn {o1 o2 a b c S} : evE T call (.chn o1 o2 a b c) S = (evE T call a S >>= fun x => evE T call b S >>= fun y => M.lift (cmpV o1 x y) >>= fun r =>
    if r = true then evE T call c S >>= fun z => M.lift ((cmpV o2 y z).map .bl) else pure (.bl false)) := rfl
theorem evE_not {a S} : evE T call (.not a) S = (evE T call a S >>= fun x => M.lift (truV x) >>= fun b => pure (.bl (!b))) := rfl
theorem evE_and {a b S} : evE T call (.and a b) S = (evE T call a S >>= fun x => M.lift (truV x) >>= fun c => if c = true then evE T call b S else pure (.bl false)) := rfl
theorem evE_or {a b S} : evE T call (.or a b) S = (evE T call a S >>= fun x => M.lift (truV x) >>= fun c => if c = true then pure (.bl true) else evE T call b S) := rfl
theorem evE_ite {c a b S} : evE T call (.ite c a b) S = (evE T call c S >>= fun x => M.lift (truV x) >>= fun d => if d = true then evE T call a S else evE T call b S) := rfl
theorem evE_ix {a b S} : evE T call (.ix a b) S = (evE T call a S >>= fun x => evE T call b S >>= fun y => M.lift (ixV x y)) := rfl
theorem evE_slc {a lo hi S} : evE T call (.slc a lo hi) S = (evE T call a S >>= fun x =>
    (if lo.isNil = true then pure none else evE T call lo S >>= fun v => M.lift ((intV v).map some)) >>= fun l =>
    (if hi.isNil = true then pure none else evE T call hi S >>= fun v => M.lift ((intV v).map some)) >>= fun h => M.lift (slcV x l h)) := rfl
theorem evE_nil {u0} : evE T call .nil u0 = (M.stuck) := rfl
theorem evE_fld {a f S} : evE T call (.fld a f) S = (evE T call a S >>= fun x => M.lift (match x with
    | .obj c fs => if T.exc[c]? = some false then ((T.flds.getD c []).zip fs).lookup f else none
    | .exn c fs => if T.exc[c]? = some true then ((T.flds.getD c []).zip fs).lookup f else none
    | _ => none)) := rfl
theorem evE_cal {f as S} : evE T call (.cal f as) S = (evA T call as S >>= fun vs => call f vs) := rfl
theorem evE_calk {f as ks S} : evE T call (.calk f as ks) S = (evA T call as S >>= fun vs => evA T call ks S >>= fun ws => call f (vs ++ ws)) := rfl
theorem evE_prm {p as S} : evE T call (.prm p as) S = (evA T call as S >>= fun vs => M.lift (primV p vs)) := rfl
theorem evE_isi {a ts S} : evE T call (.isi a ts) S = (evE T call a S >>= fun x => M.lift ((isAny T x ts).map .bl)) := rfl
theorem evE_mth {m a b S} : evE T call (.mth m a b) S = (evE T call a S >>= fun x => M.lift (strV x) >>= fun z => evE T call b S >>= fun y => M.lift (mthV m (.str z) [y])) := rfl
theorem evE_lrng {a S} : evE T call (.lrng a) S = (evE T call a S >>= fun x => M.lift ((intV x).bind fun i => if small i then some (.lst (rangeV 0 1 i.toNat)) else none)) := rfl
theorem evE_cmp1 {t it cond elt S} : evE T call (.cmp1 t it cond elt) S = (evI T call it S >>= fun xs =>
    compL (fun x => M.noex (M.lift (bindT t x (wipeE S t.slots)) >>= fun S' =>
      (if cond.isNil = true then pure true else evE T call cond S' >>= fun v => M.lift (truV v)) >>= fun c =>
      if c = true then evE T call elt S' >>= fun v => pure (some v) else pure none)) xs >>= fun ys => pure (.lst ys)) := rfl
theorem evE_cmp2 {t it cond u iu cu elt S} : evE T call (.cmp2 t it cond u iu cu elt) S = (evI T call it S >>= fun xs =>
    compLL (fun x => M.noex (M.lift (bindT t x (wipeE S (t.slots ++ u.slots))) >>= fun S' =>
      (if cond.isNil = true then pure true else evE T call cond S' >>= fun v => M.lift (truV v)) >>= fun c =>
      if c = true then evI T call iu S' >>= fun ys => compL (fun y => M.lift (bindT u y (wipeE S' u.slots)) >>= fun S'' =>
        (if cu.isNil = true then pure true else evE T call cu S'' >>= fun v => M.lift (truV v)) >>= fun c =>
        if c = true then evE T call elt S'' >>= fun v => pure (some v) else pure none) ys
      else pure [])) xs >>= fun ys => M.lift (if ys.length ≤ sizeLine then some (.lst ys) else none)) := rfl
theorem evE_rev {a S} : evE T call (.rev a) S = (evE T call a S >>= fun x => M.lift (match x with | .lst xs => some (.lst xs.reverse) | _ => none)) := rfl
theorem evE_cau {e S} : evE T call (.cau e) S = (fun d => match evE T call e S d with
    | some (.ok _, d') => some (.ok .non, d')
    | some (.exn c fs, d') => if T.exc[c]? = some true then some (.ok (.exn c fs), d') else none
    | none => none) := rfl
theorem evE_drd {t i S} : evE T call (.drd t i) S = (drwM S i fun d => some (.ok (.int (if t = true then d.turn else d.rest)), d)) := rfl
theorem evE_dcl {i S} : evE T call (.dcl i) S = (drwM S i fun d => some (.ok (.lst (d.cells.map .int)), d)) := rfl
theorem evE_dne {i S} : evE T call (.dne i) S = (drwM S i fun d => some (.ok (.bl (!d.large.isEmpty)), d)) := rfl
theorem evE_dpp {i S} : evE T call (.dpp i) S = (drwM S i fun d => popM d d.large) := rfl
theorem evE_nev {u0} : evE T call .nev u0 = (M.stuck) := rfl
theorem evA_nil {u0} : evA T call .nil u0 = (pure []) := rfl
theorem evA_cons {e as S} : evA T call (.cons e as) S = (evE T call e S >>= fun v => evA T call as S >>= fun vs => pure (v :: vs)) := rfl
theorem evA_star {e as S} : evA T call (.star e as) S = (evE T call e S >>= fun v => M.lift (seqV v) >>= fun ws => evA T call as S >>= fun vs => pure (ws ++ vs)) := rfl
theorem evI_seq {e S} : evI T call (.seq e) S = (evE T call e S >>= fun v => M.lift (seqV v)) := rfl
theorem evI_rng1 {a S} : evI T call (.rng1 a) S = (evE T call a S >>= fun v => M.lift ((intV v).bind fun j => if small j then some (rangeV 0 1 j.toNat) else none)) := rfl
theorem evI_rng2 {a b S} : evI T call (.rng2 a b) S = (evE T call a S >>= fun v => evE T call b S >>= fun w => M.lift ((intV v).bind fun i => (intV w).bind fun j => if small i && small j then some (rangeV i 1 (j - i).toNat) else none)) := rfl
theorem evI_rng3 {a b c S} : evI T call (.rng3 a b c) S = (evE T call a S >>= fun v => evE T call b S >>= fun w => evE T call c S >>= fun u => M.lift ((intV v).bind fun i => (intV w).bind fun j => (intV u).bind fun k =>
    if small i && small j && decide (k = -1) then some (rangeV i (-1) (i - j).toNat) else none)) := rfl
theorem evI_enm {e S} : evI T call (.enm e) S = (evE T call e S >>= fun v => M.lift (match v with | .lst xs => some (enumFrom 0 xs) | _ => none)) := rfl
theorem evI_zip {a b S} : evI T call (.zip a b) S = (evE T call a S >>= fun v => evE T call b S >>= fun w => M.lift (match v, w with | .lst xs, .lst ys => some (zipV xs ys) | .tup xs, .tup ys => some (zipV xs ys) | _, _ => none)) := rfl
theorem evI_chr {e S} : evI T call (.chr e) S = (evE T call e S >>= fun v => M.lift (match v with | .str z => some (z.cps.toList.map fun c => .str ⟨#[c]⟩) | _ => none)) := rfl
theorem evS_asg {t e S} : evS T call (.asg t e) S = (evE T call e S >>= fun v => M.lift (bindT t v S) >>= fun S' => pure (.nx S')) := rfl
theorem evS_own {i e S} : evS T call (.own i e) S = (evE T call e S >>= fun v => M.lift (slotV true v) >>= fun sv => pure (.nx (S.set i sv))) := rfl
theorem evS_par {i j oi oj a b S} : evS T call (.par i j oi oj a b) S = (evE T call a S >>= fun v => M.lift (slotV oi v) >>= fun sa => evE T call b S >>= fun w => M.lift (slotV oj w) >>= fun sb => pure (.nx ((S.set i sa).set j sb))) := rfl
theorem evS_seti {i k e S} : evS T call (.seti i k e) S = (evE T call e S >>= fun v => match S[i]? with
    | some (.own (.lst xs)) => evE T call k S >>= fun w => M.lift ((intV w).bind fun z => (ixN xs.length z).map fun j => xs.set j v) >>= fun ys => pure (.nx (S.set i (.own (.lst ys))))
    | _ => M.stuck) := rfl
theorem evS_app {i e S} : evS T call (.app i e) S = (match S[i]? with
    | some (.own (.lst xs)) => evE T call e S >>= fun v => if xs.length < sizeLine then pure (.nx (S.set i (.own (.lst (xs ++ [v]))))) else M.stuck
    | _ => M.stuck) := rfl
theorem evS_appP {i j e S} : evS T call (.appP i j e) S = (match S[i]?, S[j]? with
    | some (.own (.lst xs)), some (.own (.lst ys)) => evE T call e S >>= fun v => M.lift ((intV v).bind fun z => if small z then (seqIndex? z ys.length).bind fun k => (ys[k]?).map fun y => (k, y) else none) >>= fun q =>
      if xs.length < sizeLine then pure (.nx ((S.set i (.own (.lst (xs ++ [q.2])))).set j (.own (.lst (ys.eraseIdx q.1))))) else M.stuck
    | _, _ => M.stuck) := rfl
theorem evS_pop {i j S} : evS T call (.pop i j) S = (match S[j]? with
    | some (.own (.lst xs)) => match xs[xs.length - 1]? with
      | some v => pure (.nx ((S.set j (.own (.lst xs.dropLast))).set i (.val v)))
      | none => M.stuck
    | _ => M.stuck) := rfl
theorem evS_exp {e S} : evS T call (.exp e) S = (evE T call e S >>= fun _ => pure (.nx S)) := rfl
theorem evS_ret {e S} : evS T call (.ret e) S = (evE T call e S >>= fun v => pure (.rt v)) := rfl
theorem evS_retn {u0} : evS T call .retn u0 = (pure (.rt .non)) := rfl
theorem evS_iff {c a b S} : evS T call (.iff c a b) S = (evE T call c S >>= fun v => M.lift (truV v) >>= fun d => if d = true then evB T call a S else evB T call b S) := rfl
theorem evS_for {t it b S} : evS T call (.for_ t it b) S = (evI T call it S >>= fun xs => forL (fun x S' => M.lift (bindT t x S') >>= fun S'' => evB T call b S'') xs S) := rfl
theorem evS_whl {c b S} : evS T call (.whl c b) S = (whlL (fun S' => evE T call c S' >>= fun v => M.lift (truV v)) (fun S' => evB T call b S') S) := rfl
theorem evS_brk {S} : evS T call .brk S = (pure (.bk S)) := rfl
theorem evS_cnt {S} : evS T call .cnt S = (pure (.ct S)) := rfl
theorem evS_pas {S} : evS T call .pas S = (pure (.nx S)) := rfl
theorem evS_rai {c u0} : evS T call (.rai c) u0 = (M.raise c []) := rfl
theorem evS_raia {c e S} : evS T call (.raia c e) S = (evE T call e S >>= fun v => M.raise c [v]) := rfl
theorem evS_frz {i S} : evS T call (.frz i) S = (match S[i]? with
    | some (.own v) => pure (.nx (S.set i (.val v)))
    | _ => M.stuck) := rfl
theorem evS_dst {t i e S} : evS T call (.dst t i e) S = (evE T call e S >>= fun v => M.lift (intV v) >>= fun z => drwM S i fun d => some (.ok (.nx S), if t = true then { d with turn := z } else { d with rest := z })) := rfl
theorem evB_nil {S} : evB T call .nil S = (pure (.nx S)) := rfl
theorem evB_cons {s b S} : evB T call (.cons s b) S = (evS T call s S >>= fun f => match f with
    | .nx S' => evB T call b S'
    | .rt v => pure (.rt v)
    | .bk S' => pure (.bk S')
    | .ct S' => pure (.ct S')) := rfl
end
theorem mE_var {i P sc e} : mE  (.var i) P sc e = (match e with
    | .Name x _ => decide (P.N[i]? = some x) && visB sc x && okN x
    | _ => false) := rfl
theorem mE_bvar {i P sc e} : mE  (.bvar i) P sc e = (match e with
    | .Name x _ => decide (P.N[i]? = some x) && visB sc x && okN x
    | _ => false) := rfl
theorem mE_cst {v P u0 e} : mE  (.cst v) P u0 e = (cstB v e) := rfl
theorem mE_glb {k P sc e} : mE  (.glb k) P sc e = (match e with
    | .Name x _ => decide ((P.T.consts[k]?).map (·.1) = some x) && glB sc x && okN x
    | _ => false) := rfl
theorem mE_tup {as P sc e} : mE  (.tup as) P sc e = (match e with
    | .Tuple es _ _ => mA as P true false sc es && as.plain && decide (as.len ≤ 1000)
    | _ => false) := rfl
theorem mE_tups {as P sc e} : mE  (.tups as) P sc e = (match e with
    | .Tuple es _ _ => mA as P true true sc es
    | _ => false) := rfl
theorem mE_lst {as P sc e} : mE  (.lst as) P sc e = (match e with
    | .List es _ => mA as P true false sc es && as.plain && decide (as.len ≤ 1000)
    | _ => false) := rfl
theorem mE_bin {o a b P sc e} : mE  (.bin o a b) P sc e = (match e with
    | .BinOp x p y _ => bopB o p && mE a P sc x && mE b P sc y
    | _ => false) := rfl
theorem mE_neg {a P sc e} : mE  (.neg a) P sc e = (match e with
    | .UnaryOp p x _ => decide (p = .USub) && mE a P sc x
    | _ => false) := rfl
theorem mE_cmp {o a b P sc e} : mE  (.cmp o a b) P sc e = (match e with
    | .Compare x [p] [y] _ => copB o p && mE a P sc x && mE b P sc y && !behindInMarks p y
    | _ => false) := rfl
theorem mE_chn {o1 o2 a b c P sc e} : mE  (.chn o1 o2 a b c) P sc e = (match e with
    | .Compare x [p, q] [y, z] _ => copB o1 p && copB o2 q && mE a P sc x && mE b P sc y && mE c P sc z && !behindInMarks q z
    | _ => false) := rfl
theorem mE_not {a P sc e} : mE  (.not a) P sc e = (match e with
    | .UnaryOp p x _ => decide (p = .Not) && mE a P sc x && !a.isB
    | _ => false) := rfl
theorem mE_and {a b P sc e} : mE  (.and a b) P sc e = (match e with
    | .BoolOp .And (x :: y :: r) pos => mE a P sc x && (match r with
      | [] => mE b P sc y
      | z :: r' => mE b P sc (.BoolOp .And (y :: z :: r') pos)) && !a.isB && !b.isB
    | _ => false) := rfl
theorem mE_or {a b P sc e} : mE  (.or a b) P sc e = (match e with
    | .BoolOp .Or (x :: y :: r) pos => mE a P sc x && (match r with
      | [] => mE b P sc y
      | z :: r' => mE b P sc (.BoolOp .Or (y :: z :: r') pos)) && !a.isB && !b.isB
    | _ => false) := rfl
theorem mE_ite {c a b P sc e} : mE  (.ite c a b) P sc e = (match e with
    | .IfExp z x y _ => mE c P sc z && mE a P sc x && mE b P sc y && !a.isB && !b.isB && !c.isB
    | _ => false) := rfl
theorem mE_ix {a b P sc e} : mE  (.ix a b) P sc e = (match e with
    | .Subscript x y _ => nosliceB y && mE a P sc x && mE b P sc y
    | _ => false) := rfl
theorem mE_slc {a lo hi P sc e} : mE  (.slc a lo hi) P sc e = (match e with
    | .Subscript x (.Slice l h none _) _ => mE a P sc x && (match l with
      | none => lo.isNil
      | some l => !lo.isNil && mE lo P sc l) && (match h with
      | none => hi.isNil
      | some h => !hi.isNil && mE hi P sc h)
    | _ => false) := rfl
theorem mE_nil {P u0 u1} : mE  .nil P u0 u1 = (false) := rfl
theorem mE_fld {a f P sc e} : mE  (.fld a f) P sc e = (match e with
    | .Attribute x n _ => nocallB x && mE a P sc x && decide (P.nm.fld[f]? = some n)
    | _ => false) := rfl
theorem mE_cal {f as P sc e} : mE  (.cal f as) P sc e = (match e with
    | .Call (.Name x _) es [] _ => (match P.nm.fns[f]? with
      | some q => decide (q.1 = x) && decide (q.2.length = es.length)
      | none => false) && glB sc x && okN x && !es.isEmpty && mA as P true false sc es
    | _ => false) := rfl
theorem mE_calk {f as ks P sc e} : mE  (.calk f as ks) P sc e = (match e with
    | .Call (.Name x _) es kws _ => (match P.nm.fns[f]? with
      | some q => decide (q.1 = x) && decide (kws.map (·.arg) = (q.2.drop es.length).map some) && decide (es.length + kws.length = q.2.length)
      | none => false) && glB sc x && okN x && mA as P true false sc es && mK ks P sc kws
    | _ => false) := rfl
theorem mE_prm {p as P sc e} : mE  (.prm p as) P sc e = (match e with
    | .Call (.Name x _) es [] _ => decide (x = primN p) && glB sc x && !es.isEmpty && mA as P false false sc es
    | _ => false) := rfl
theorem mE_isi {a ts P sc e} : mE  (.isi a ts) P sc e = (match e with
    | .Call (.Name x _) [y, z] [] _ => decide (x = "isinstance") && glB sc x && mE a P sc y && nostarB y && nostarB z && (match z with
      | .Tuple es _ _ => es.all nostarB && ctsB P sc ts es && !es.isEmpty && decide (es.length ≤ 1000)
      | z => ctsB P sc ts [z])
    | _ => false) := rfl
theorem mE_mth {m a b P sc e} : mE  (.mth m a b) P sc e = (match e with
    | .Call (.Attribute o x apos) [y] [] cpos => decide (x = mthN m) && nocallB o && decide (apos.endLine = cpos.line) && mE a P sc o && nostarB y && mE b P sc y
    | _ => false) := rfl
theorem mE_lrng {a P sc e} : mE  (.lrng a) P sc e = (match e with
    | .Call (.Name x _) [.Call (.Name y _) [z] [] _] [] _ => decide (x = "list") && decide (y = "range") && glB sc x && glB sc y && nostarB z && mE a P sc z
    | _ => false) := rfl
theorem mE_cmp1 {t it cond elt P sc e} : mE  (.cmp1 t it cond elt) P sc e = (match e with
    | .ListComp x [⟨tg, iter, ifs, k⟩] scope _ => decide (k = 0) && mI it P true sc tg iter && nosetB iter && blkC P.N sc scope (ownOf P.N t.slots) && mT P (relS scope sc) t tg && (match ifs with
      | [] => cond.isNil
      | [c] => !cond.isNil && !cond.isB && mE cond { P with lam := false } (relS scope sc) c
      | _ => false) && mE elt { P with lam := false } (relS scope sc) x && !elt.isB && decide (scope.kind = .function) && t.slots.all fun i => match P.N[i]? with
        | some y => decide ((relS scope sc).names.lookup y = some .local) || decide (scope.names.lookup y = some .cell)
        | none => false
    | _ => false) := rfl
theorem mE_cmp2 {t it cond u iu cu elt P sc e} : mE  (.cmp2 t it cond u iu cu elt) P sc e = (match e with
    | .ListComp x [⟨tg, iter, ifs, k⟩, ⟨tg', iter', ifs', k'⟩] scope _ => decide (k = 0) && decide (k' = 0) && mI it P true sc tg iter && nosetB iter && nosetB iter' && blkC P.N sc scope (ownOf P.N (t.slots ++ u.slots)) && mT P (relS scope sc) t tg && mT P (relS scope sc) u tg' &&
      mI iu { P with lam := false } false (relS scope sc) tg' iter' && (match ifs with
      | [] => cond.isNil
      | [c] => !cond.isNil && !cond.isB && mE cond { P with lam := false } (relS scope sc) c
      | _ => false) && (match ifs' with
      | [] => cu.isNil
      | [c] => !cu.isNil && !cu.isB && mE cu { P with lam := false } (relS scope sc) c
      | _ => false) && mE elt { P with lam := false } (relS scope sc) x && !elt.isB && decide (scope.kind = .function) && (t.slots ++ u.slots).all fun i => match P.N[i]? with
        | some y => decide ((relS scope sc).names.lookup y = some .local) || decide (scope.names.lookup y = some .cell)
        | none => false
    | _ => false) := rfl
theorem mE_rev {a P sc e} : mE  (.rev a) P sc e = (match e with
    | .Subscript x (.Slice none none (some (.UnaryOp .USub (.Constant (.int i) _ _) _)) _) _ => decide (i = 1) && mE a P sc x
    | _ => false) := rfl
theorem mE_cau {a P sc e} : mE  (.cau a) P sc e = (match e with
    | .Call (.Name x _) [.Lambda ps b scope _] [] _ => P.lam && decide (x = "_law_caught") && glB sc x && lamSB sc scope && mE a { P with lam := false } scope b && noparB ps && !a.isB
    | _ => false) := rfl
theorem mE_drd {t i P sc e} : mE  (.drd t i) P sc e = (match e with
    | .Subscript (.Name x _) (.Constant (.str k) _ _) _ => decide (P.N[i]? = some x) && visB sc x && okN x && decide (k = if t = true then "turn" else "rest")
    | _ => false) := rfl
theorem mE_dcl {i P sc e} : mE  (.dcl i) P sc e = (match e with
    | .Subscript (.Name x _) (.Constant (.str k) _ _) _ => decide (P.N[i]? = some x) && visB sc x && okN x && decide (k = "cells")
    | _ => false) := rfl
theorem mE_dne {i P sc e} : mE  (.dne i) P sc e = (match e with
    | .Compare (.Subscript (.Name x _) (.Constant (.str k) _ _) _) [p] [.List [] _] _ => decide (P.N[i]? = some x) && visB sc x && okN x && decide (k = "large") && decide (p = .NotEq)
    | _ => false) := rfl
theorem mE_dpp {i P sc e} : mE  (.dpp i) P sc e = (match e with
    | .Call (.Attribute (.Subscript (.Name x _) (.Constant (.str k) _ _) _) f ap) [.Constant (.int z) _ _] [] cp => decide (P.N[i]? = some x) && visB sc x && okN x && decide (k = "large") && decide (f = "pop") && decide (z = 0) && decide (ap.endLine = cp.line)
    | _ => false) := rfl
theorem mE_nev {P u0 u1} : mE  .nev P u0 u1 = (true) := rfl
theorem mA_nil {P u0 u1 u2 es} : mA  .nil P u0 u1 u2 es = (match es with
    | [] => true
    | _ => false) := rfl
theorem mA_cons {a as P strong star sc es} : mA  (.cons a as) P strong star sc es = (match es with
    | x :: xs => nostarB x && mE a P sc x && (!strong || !a.isB) && mA as P strong star sc xs
    | [] => false) := rfl
theorem mA_star {a as P strong star sc es} : mA  (.star a as) P strong star sc es = (match es with
    | .Starred x _ :: xs => star && mE a P sc x && !a.isB && mA as P strong star sc xs
    | _ => false) := rfl
theorem mK_nil {P u0 ks} : mK  .nil P u0 ks = (match ks with
    | [] => true
    | _ => false) := rfl
theorem mK_cons {a as P sc ks} : mK  (.cons a as) P sc ks = (match ks with
    | ⟨nm, x, _⟩ :: xs => nm.isSome && mE a P sc x && !a.isB && mK as P sc xs
    | [] => false) := rfl
theorem mK_star {u0 u1 P u2 u3} : mK  (.star u0 u1) P u2 u3 = (false) := rfl
theorem mI_seq {a P w sc u0 e} : mI  (.seq a) P w sc u0 e = (mE a P sc e && (w || !a.isB)) := rfl
theorem mI_rng1 {a P u0 sc u1 e} : mI  (.rng1 a) P u0 sc u1 e = (match e with
    | .Call (.Name x _) [y] [] _ => decide (x = "range") && glB sc x && nostarB y && mE a P sc y
    | _ => false) := rfl
theorem mI_rng2 {a b P u0 sc u1 e} : mI  (.rng2 a b) P u0 sc u1 e = (match e with
    | .Call (.Name x _) [y, z] [] _ => decide (x = "range") && glB sc x && nostarB y && nostarB z && mE a P sc y && mE b P sc z
    | _ => false) := rfl
theorem mI_rng3 {a b c P u0 sc u1 e} : mI  (.rng3 a b c) P u0 sc u1 e = (match e with
    | .Call (.Name x _) [y, z, u] [] _ => decide (x = "range") && glB sc x && nostarB y && nostarB z && nostarB u && mE a P sc y && mE b P sc z && mE c P sc u
    | _ => false) := rfl
theorem mI_enm {a P w sc tg e} : mI  (.enm a) P w sc tg e = (match e with
    | .Call (.Name x _) [y] [] _ => decide (x = "enumerate") && glB sc x && nostarB y && mE a P sc y && isTupB tg && (w || !a.isB)
    | _ => false) := rfl
theorem mI_zip {a b P w sc tg e} : mI  (.zip a b) P w sc tg e = (match e with
    | .Call (.Name x _) [y, z] [] _ => decide (x = "zip") && glB sc x && nostarB y && nostarB z && mE a P sc y && mE b P sc z && isTupB tg && (w || (!a.isB && !b.isB))
    | _ => false) := rfl
theorem mI_chr {a P u0 sc u1 e} : mI  (.chr a) P u0 sc u1 e = (mE a P sc e) := rfl
theorem mS_asg {t e P sc st} : mS  (.asg t e) P sc st = (match st with
    | .Assign [tg] x _ => mE e P sc x && !e.isB && mT P sc t tg && (match tg with
      | .Name y py => !compB x || compStB sc y py x
      | .Tuple .. => !compB x && notTupB x
      | _ => false)
    | _ => false) := rfl
theorem mS_own {i e P sc st} : mS  (.own i e) P sc st = (match st with
    | .Assign [.Name y py] x _ => mE e P sc x && e.freshB && decide (P.N[i]? = some y) && locB sc y && (!compB x || compStB sc y py x)
    | _ => false) := rfl
theorem mS_par {i j oi oj a b P sc st} : mS  (.par i j oi oj a b) P sc st = (match st with
    | .Assign [.Tuple [.Name x px, .Name y py] _ _] (.Tuple [u, v] _ _) _ => decide (i ≠ j) && decide (P.N[i]? = some x) && decide (P.N[j]? = some y) && locOnly sc x && locOnly sc y && nostarB u && nostarB v && (py.line == px.line) &&
      !([u, v].all (foldedForSure 8)) && !([u, v].all (constantsAlone 8)) && mE a P sc u && mE b P sc v && (if oi = true then a.freshB else !a.isB) && (if oj = true then b.freshB else !b.isB)
    | _ => false) := rfl
theorem mS_seti {u0 u1 u2 u3 u4 u5} : mS  (.seti u0 u1 u2) u3 u4 u5 = (false) := rfl
theorem mS_app {i e P sc st} : mS  (.app i e) P sc st = (match st with
    | .Expr (.Call (.Attribute (.Name x _) f ap) [y] [] cp) _ => decide (f = "append") && decide (P.N[i]? = some x) && visB sc x && okN x && decide (ap.endLine = cp.line) && nostarB y && mE e P sc y && !e.isB
    | _ => false) := rfl
theorem mS_appP {i j e P sc st} : mS  (.appP i j e) P sc st = (match st with
    | .Expr (.Call (.Attribute (.Name x _) f ap) [.Call (.Attribute (.Name y _) f' ap') [z] [] cp'] [] cp) _ => decide (i ≠ j) && decide (f = "append") && decide (f' = "pop") && decide (P.N[i]? = some x) && visB sc x && okN x && decide (P.N[j]? = some y) && visB sc y && okN y &&
      decide (ap.endLine = cp.line) && decide (ap'.endLine = cp'.line) && nostarB z && mE e P sc z
    | _ => false) := rfl
theorem mS_pop {i j P sc st} : mS  (.pop i j) P sc st = (match st with
    | .Assign [.Name x _] (.Call (.Attribute (.Name y _) f ap) [] [] cp) _ => decide (i ≠ j) && decide (f = "pop") && decide (P.N[i]? = some x) && locB sc x && decide (P.N[j]? = some y) && visB sc y && okN y && decide (ap.endLine = cp.line)
    | _ => false) := rfl
theorem mS_exp {e P sc st} : mS  (.exp e) P sc st = (match st with
    | .Expr x _ => !compB x && mE e P sc x
    | _ => false) := rfl
theorem mS_ret {e P sc st} : mS  (.ret e) P sc st = (match st with
    | .Return (some x) _ => mE e P sc x && !e.isB
    | _ => false) := rfl
theorem mS_retn {u0 u1 st} : mS  .retn u0 u1 st = (match st with
    | .Return none _ => true
    | _ => false) := rfl
theorem mS_iff {c a b P sc st} : mS  (.iff c a b) P sc st = (match st with
    | .If x ys zs _ => mE c P sc x && !c.isB && mB a P sc ys && mB b P sc zs
    | _ => false) := rfl
theorem mS_for {t it b P sc st} : mS  (.for_ t it b) P sc st = (match st with
    | .For tg iter body [] _ => mI it P false sc tg iter && nosetB iter && mT P sc t tg && mB b P sc body
    | _ => false) := rfl
theorem mS_whl {c b P sc st} : mS  (.whl c b) P sc st = (match st with
    | .While x body [] _ => mE c P sc x && !c.isB && mB b P sc body
    | _ => false) := rfl
theorem mS_brk {u0 u1 st} : mS  .brk u0 u1 st = (match st with
    | .Break _ => true
    | _ => false) := rfl
theorem mS_cnt {u0 u1 st} : mS  .cnt u0 u1 st = (match st with
    | .Continue _ => true
    | _ => false) := rfl
theorem mS_pas {u0 u1 st} : mS  .pas u0 u1 st = (match st with
    | .Pass _ => true
    | _ => false) := rfl
theorem mS_rai {c P sc st} : mS  (.rai c) P sc st = (match st with
    | .Raise (some (.Call (.Name x _) [.Constant (.str _) _ _] [] _)) none _ => decide (P.nm.cls[c]? = some x) && decide (P.T.exc[c]? = some true) && glB sc x && okN x && decide ((P.T.flds.getD c []) = [])
    | _ => false) := rfl
theorem mS_raia {c e P sc st} : mS  (.raia c e) P sc st = (match st with
    | .Raise (some (.Call (.Name x _) [y] [] _)) none _ => decide (P.nm.cls[c]? = some x) && decide (P.T.exc[c]? = some true) && glB sc x && okN x && nostarB y && decide ((P.T.flds.getD c []).length = 1) && mE e P sc y && !e.isB
    | _ => false) := rfl
theorem mS_frz {u0 u1 u2 u3} : mS  (.frz u0) u1 u2 u3 = (false) := rfl
theorem mS_dst {t i e P sc st} : mS  (.dst t i e) P sc st = (match st with
    | .Assign [.Subscript (.Name x _) (.Constant (.str k) _ _) _] y _ => decide (P.N[i]? = some x) && visB sc x && okN x && decide (k = if t = true then "turn" else "rest") && mE e P sc y && !e.isB && !compB y
    | _ => false) := rfl
theorem mB_nil {u0 u1 sts} : mB  .nil u0 u1 sts = (match sts with
    | [] => true
    | _ => false) := rfl
theorem mB_cons {s b P sc sts} : mB  (.cons s b) P sc sts = (if s.isFrz = true then mB b P sc sts else match sts with
    | st :: sts => mS s P sc st && mB b P sc sts
    | [] => false) := rfl
end BA
/-! BaSndE1 -/
set_option linter.all false
set_option maxRecDepth 100000
set_option maxHeartbeats 1000000
/-! BaSndE1: each form of expression keeps its meaning: operators, comparisons, displays, items. -/
namespace BA
open PySem PySem.Spec PyProof.Rows L2 LamX

theorem _root_.L2.PE.imp {X : Cx} {e : Expr} {t t' : TE} (h : PE X e t) (i : ∀ σ H Q, t' σ H Q → t σ H Q) : PE X e t' := ⟨fun pins s σ H Q I q => h.run pins s σ H Q I (i σ H Q q)⟩
theorem _root_.L2.PT.imp {X : Cx} {e : Expr} {t t' : TT} (h : PT X e t) (i : ∀ σ H Q, t' σ H Q → t σ H Q) : PT X e t' := ⟨fun pins s σ H Q I q => h.run pins s σ H Q I (i σ H Q q)⟩
theorem _root_.L2.PW.imp {X : Cx} {e : Expr} {t t' : TT} (h : PW X e t) (i : ∀ σ H Q, t' σ H Q → t σ H Q) : PW X e t' := ⟨fun w pins s σ H Q I q => h.run w pins s σ H Q I (i σ H Q q)⟩
theorem _root_.L2.PA.imp {X : Cx} {es : List Expr} {t t' : TA} (h : PA X es t) (i : ∀ σ H Q, t' σ H Q → t σ H Q) : PA X es t' := ⟨fun pos pins s σ H Q I q => h.run pos pins s σ H Q I (i σ H Q q)⟩
theorem _root_.L2.PK.imp {X : Cx} {es : List Keyword} {t t' : TA} (h : PK X es t) (i : ∀ σ H Q, t' σ H Q → t σ H Q) : PK X es t' := ⟨fun pos pins s σ H Q I q => h.run pos pins s σ H Q I (i σ H Q q)⟩
theorem _root_.L2.PI.imp {X : Cx} {tg e : Expr} {t t' : TI} (h : PI X tg e t) (i : ∀ σ H Q, t' σ H Q → t σ H Q) : PI X tg e t' := ⟨fun pins s σ H Q I q => h.run pins s σ H Q I (i σ H Q q)⟩
theorem _root_.L2.PI.or {X : Cx} {tg e : Expr} {t1 t2 t' : TI} (h1 : PI X tg e t1) (h2 : PI X tg e t2) (i : ∀ σ H Q, t' σ H Q → t1 σ H Q ∨ t2 σ H Q) : PI X tg e t' :=
  ⟨fun pins s σ H Q I q => (i σ H Q q).elim (h1.run pins s σ H Q I) (h2.run pins s σ H Q I)⟩

/-! ### the world -/
structure LWOk (L : LW) : Prop where
  consts : ∀ (k : Nat) (p : Str × PV), L.T.consts[k]? = some p → ∃ u v, L.mg p.1 = some u ∧ RelV v u ∧ ∀ F, Rep L.g F v p.2
  free : ∀ x ∈ freeN, L.mg x = none
  fns : ∀ (f : Nat) (q : Str × List Str), L.nm.fns[f]? = some q → L.mg q.1 = some (.ref (L.fA f)) ∧ PySem.W.keepIn L.g.K (.ref (L.fA f)) = true ∧ Binds L.g.K (L.fD f) q.2 []
  kbn : ∀ (f : Nat) (q : Str × List Str) (n : Nat), L.nm.fns[f]? = some q → n ≤ q.2.length → KBn L.g.K (L.fD f) q.2 n (q.2.drop n) (· ++ ·) (· ++ ·)
  arity : ∀ (f : Nat) (q : Str × List Str) (fe : FE), L.nm.fns[f]? = some q → L.F[f]? = some fe → fe.np = q.2.length
  isa : IsaOk L.g L.T
  cls : ∀ (k : Nat) (x : Str), L.nm.cls[k]? = some x → L.mg x = some (.ref (L.g.cA k))
structure ObjC (K : PySem.W.Frag) (C : Addr) : Prop where
  cl : Cls K C
  ha : PySem.W.findIn K (.ref C) "__class__" = some (some (.builtin "object.__class__"))
  hn : PySem.W.specialIn K (.builtin "object.__class__") "__get__" = some (some (.builtin "getset_descriptor.__get__"))
  ht : PySem.W.takesIn K (.builtin "object.__class__") = some true
  hm : PySem.W.mroIn K C (.type "object") = some true
/-- the classes -/
structure ClsOk (L : LW) : Prop where
  objc : ∀ c : Nat, L.T.exc[c]? = some false → ObjC L.g.K (L.g.cA c)
  excc : ∀ c : Nat, L.T.exc[c]? = some true → ExcC L.g.K (L.g.cA c)
  noat : ∀ (c f : Nat) (x : Str), f ∈ L.T.flds.getD c [] → L.nm.fld[f]? = some x → PySem.W.findIn L.g.K (.ref (L.g.cA c)) x = some none
  fldn : ∀ c, L.g.flds c = (L.T.flds.getD c []).map fun f => L.nm.fld.getD f Str.empty
  fldd : L.nm.fld.Nodup
  fldl : ∀ (c f : Nat), f ∈ L.T.flds.getD c [] → f < L.nm.fld.length
def Fns (L : LW) (n : Nat) : Prop := ∀ f q, L.nm.fns[f]? = some q → FnOk L.P L.w L.g.K L.mg L.base (L2.CX L.P L.w) (3 * n) (L.fA f) (L.fD f) q.2 (spI L n f q.2.length)
/-- a place where a lambda is handed to _law_caught -/
def LamC (L : LW) (n : Nat) (X : Cx) : Prop := ∃ c p : Addr, TabB X.base X.mg c p ∧ X.env.code = .ref c ∧ (p, X.env.qual ++ "<lambda>") ∈ L.g.Tb ∧ (∀ q ∈ L.g.Tb, q.1 = p → q.2 = X.env.qual ++ "<lambda>") ∧ Room (3 * n + 2) X.A
/-- _law_caught(work): caught = None; try: work(); except StopError as error: caught = error; return caught -/
def caughtBody (a e ct sx : Str) (j : Nat) (p1 p2 p3 p4 p5 p6 p7 p8 p9 p10 p11 p12 p13 p14 : Pos) : List Stmt :=
  [.Assign [.Name ct p1] (.Constant .none j p2) p3, .Try [.Expr (.Call (.Name a p4) [] [] p5) p6] [.ExceptHandler (some (.Name sx p7)) (some e) [.Assign [.Name ct p8] (.Name e p9) p10] p11] [] [] p12, .Return (some (.Name ct p13)) p14]
structure CauOk (L : LW) : Prop where
  ex : ∃ (g CS : Addr) (Ng : List Str) (pg : Arguments) (sg : Scope) (oc dV kV doc pm cdv ct : Value) (od an : Option Addr) (osl : Array (Option Value)) (a e cv sx : Str) (ie ic j : Nat) (p1 p2 p3 p4 p5 p6 p7 p8 p9 p10 p11 p12 p13 p14 : Pos),
    L.mg "_law_caught" = some (.ref g) ∧ PySem.W.keepIn L.g.K (.ref g) = true ∧ L.g.K.lookup g = some ⟨oc, od, .func (PySem.W.fnOf "_law_caught" "_law_caught" pg (caughtBody a e cv sx j p1 p2 p3 p4 p5 p6 p7 p8 p9 p10 p11 p12 p13 p14) sg dV kV doc pm an cdv ct), osl⟩ ∧
    PySem.W.codeIn L.g.K cdv "_law_caught" = true ∧ Binds L.g.K (PySem.W.fnOf "_law_caught" "_law_caught" pg (caughtBody a e cv sx j p1 p2 p3 p4 p5 p6 p7 p8 p9 p10 p11 p12 p13 p14) sg dV kV doc pm an cdv ct) [a] [] ∧
    FnScope Ng [a] sg ∧ Ng[0]? = some a ∧ Vis sg a ∧ Ng[ie]? = some e ∧ Ng[ic]? = some cv ∧ ie ≠ ic ∧ ie ≠ 0 ∧ ic ≠ 0 ∧ sg.names.lookup e = some .local ∧ sg.names.lookup cv = some .local ∧ okN a = true ∧ okN e = true ∧ okN cv = true ∧
    sg.names.lookup sx = some .globalImplicit ∧ okN sx = true ∧ L.mg sx = some (.ref CS) ∧ ∀ c : Nat, L.T.exc[c]? = some true → PySem.W.exmOne L.g.K (.ref (L.g.cA c)) (.ref CS) = some true
/-- the context of a piece of code -/
structure CtxB (L : LW) (P : MP) (n : Nat) (sc : Scope) (X : Cx) (W : XK) : Prop where
  law : LWOk L
  clo : ClsOk L
  fns : Fns L n
  nm : P.nm = L.nm
  T : P.T = L.T
  prog : X.prog = L.P
  w : X.w = L.w
  K : X.K = L.g.K
  mg : X.mg = L.mg
  base : X.base = L.base
  N : X.N = P.N
  nd : P.N.Nodup
  calm : X.calm = true
  scope : X.env.scope = sc
  kind : sc.kind = .function
  room : Room (3 * n) X.A
  tk : Takes X (fun c d _ H => W c d H)
  lamc : P.lam = true → CauOk L ∧ LamC L n X
section
variable {L : LW} {P : MP} {n : Nat} {sc : Scope} {X : Cx} {W : XK}
theorem CtxB.units (c : CtxB L P n sc X W) : X.A.units + 65 < cLine := by have := c.room.un; omega
theorem CtxB.gl (c : CtxB L P n sc X W) {x : Str} (h : glB sc x = true) : Gl X x := by
  show X.env.scope.names.lookup x = _
  rw [c.scope]
  exact of_decide_eq_true h
theorem CtxB.vis (c : CtxB L P n sc X W) {x : Str} (h : visB sc x = true) : Vis X.env.scope x := by
  rw [c.scope]
  simp only [visB, Bool.or_eq_true, decide_eq_true_eq] at h
  rcases h with (h | h) | h
  · exact .inl h
  · exact .inr (.inl h)
  · exact .inr (.inr h)
theorem CtxB.fre (c : CtxB L P n sc X W) {x : Str} (h : x ∈ freeN) : X.mg x = none := by rw [c.mg]; exact c.law.free x h
theorem CtxB.passes (c : CtxB L P n sc X W) : Passes (L2.CX X.prog X.w) X W := passes_call c.tk fun _ _ _ _ h => h
end

/-! ### steps -/
section
variable {L : LW} {n : Nat} {W : XK} {F0 H0 F H : Hp} {D : Dr} {S : BA.Env} {σ : L2.St} {α : Type} {R : α → Dr → Prop}
theorem stepE {ie : IE} {k : PV → M α} {Q : VK} (r : RB L.g F0 H0 F H D) (s : SL L.g H0 F H σ S) (h : PostM L.g W F H R ((evE L.T (L.call n) ie S >>= k) D))
    (q : ∀ F1 H1 x v D1, RB L.g F0 H0 F1 H1 D1 → RB L.g F H F1 H1 D1 → SL L.g H0 F1 H1 σ S → Rep L.g F1 x v → PostM L.g W F1 H1 R (k v D1) → Q x H1) : tE L n W ie σ H Q :=
  ⟨F0, H0, F, S, D, r, s, h.bind.mono fun v D1 hv F1 H1 x p hx => q F1 H1 x v D1 (r.trans p) p (s.grow p) hx (hv.shift p)⟩
theorem stepB {ie : IE} {k : PV → M α} {Q : VK} (r : RB L.g F0 H0 F H D) (s : SL L.g H0 F H σ S) (h : PostM L.g W F H R ((evE L.T (L.call n) ie S >>= k) D))
    (q : ∀ F1 H1 x v D1, RB L.g F0 H0 F1 H1 D1 → RB L.g F H F1 H1 D1 → SL L.g H0 F1 H1 σ S → BRep L.g F1 H1 x v → PostM L.g W F1 H1 R (k v D1) → Q x H1) : BA.tB L n W ie σ H Q :=
  ⟨F0, H0, F, S, D, r, s, h.bind.mono fun v D1 hv F1 H1 x p hx => q F1 H1 x v D1 (r.trans p) p (s.grow p) hx (hv.shift p)⟩
theorem stepA {as : IA} {k : List PV → M α} {Q : List V → Hp → Prop} (r : RB L.g F0 H0 F H D) (s : SL L.g H0 F H σ S) (h : PostM L.g W F H R ((evA L.T (L.call n) as S >>= k) D))
    (q : ∀ F1 H1 x v D1, RB L.g F0 H0 F1 H1 D1 → RB L.g F H F1 H1 D1 → SL L.g H0 F1 H1 σ S → RepAll L.g F1 x v → PostM L.g W F1 H1 R (k v D1) → Q x H1) : tA L n W as σ H Q :=
  ⟨F0, H0, F, S, D, r, s, h.bind.mono fun v D1 hv F1 H1 x p hx => q F1 H1 x v D1 (r.trans p) p (s.grow p) hx (hv.shift p)⟩
theorem stepAB {as : IA} {k : List PV → M α} {Q : List V → Hp → Prop} (r : RB L.g F0 H0 F H D) (s : SL L.g H0 F H σ S) (h : PostM L.g W F H R ((evA L.T (L.call n) as S >>= k) D))
    (q : ∀ F1 H1 x v D1, RB L.g F0 H0 F1 H1 D1 → RB L.g F H F1 H1 D1 → SL L.g H0 F1 H1 σ S → BAll L.g F1 H1 x v → PostM L.g W F1 H1 R (k v D1) → Q x H1) : tAB L n W as σ H Q :=
  ⟨F0, H0, F, S, D, r, s, h.bind.mono fun v D1 hv F1 H1 x p hx => q F1 H1 x v D1 (r.trans p) p (s.grow p) hx (hv.shift p)⟩
theorem stepT {ie : IE} {k : Bool → M α} {Q : Bool → Hp → Prop} (r : RB L.g F0 H0 F H D) (s : SL L.g H0 F H σ S) (h : PostM L.g W F H R ((evE L.T (L.call n) ie S >>= fun x => M.lift (truV x) >>= k) D))
    (q : ∀ F1 H1 b D1, RB L.g F0 H0 F1 H1 D1 → RB L.g F H F1 H1 D1 → SL L.g H0 F1 H1 σ S → PostM L.g W F1 H1 R (k b D1) → Q b H1) : tT L n W ie σ H Q := by
  rw [← M.bind_assoc] at h
  exact ⟨F0, H0, F, S, D, r, s, h.bind.mono fun v D1 hv F1 H1 p => q F1 H1 v D1 (r.trans p) p (s.grow p) (hv.shift p)⟩
end

def boolB : Expr → Bool
  | .BoolOp .. => true
  | _ => false
structure GoodE (L : LW) (n : Nat) (W : XK) (X : Cx) (ie : IE) (e : Expr) : Prop where
  pe : ie.isB = false → PE X e (tE L n W ie)
  pb : PE X e (BA.tB L n W ie)
  pt : ie.isB = false → PT X e (tT L n W ie)
  pw : ie.isB = false → boolB e = true → PW X e (tT L n W ie)
  po : ie.freshB = true → PE X e (tO L n W ie)
def SndE (L : LW) (ie : IE) : Prop := ∀ (P : MP) (n : Nat) (sc : Scope) (X : Cx) (W : XK) (e : Expr), CtxB L P n sc X W → mE ie P sc e = true → GoodE L n W X ie e
structure GoodA (L : LW) (n : Nat) (W : XK) (X : Cx) (as : IA) (strong : Bool) (es : List Expr) : Prop where
  pa : strong = true → PA X es (tA L n W as)
  pb : strong = false → PA X es (tAB L n W as)
def SndA (L : LW) (as : IA) : Prop := ∀ (P : MP) (n : Nat) (sc : Scope) (X : Cx) (W : XK) (strong star : Bool) (es : List Expr), CtxB L P n sc X W → mA as P strong star sc es = true → GoodA L n W X as strong es
section
variable {L : LW} {P : MP} {n : Nat} {sc : Scope} {X : Cx} {W : XK} {e : Expr}
theorem tE_of_tB {ie : IE} {σ : L2.St} {H : Hp} {Q : VK} (h : BA.tB L n W ie σ H Q) : tE L n W ie σ H Q := by
  obtain ⟨F0, H0, F, S, D, r, s, h⟩ := h
  exact ⟨F0, H0, F, S, D, r, s, h.mono fun v D' q => q.fin⟩
theorem tT_val {ie : IE} {σ : L2.St} {H : Hp} {Q : Bool → Hp → Prop} (h : tT L n W ie σ H Q) : tE L n W ie σ H (fun x H1 => ∃ c, x = .bl c ∧ Q c H1) := by
  obtain ⟨F0, H0, F, S, D, r, s, h⟩ := h
  refine stepE r s h fun F1 H1 x v D1 r1 p s1 hx h1 => ?_
  obtain ⟨b, e, q⟩ := h1.lift
  cases v with
  | bl c =>
    cases e
    cases hx
    exact ⟨_, rfl, q F1 H1 p⟩
  | _ => cases e
theorem plain_true (e : Expr) (h : plainB e = true) (env : PySem.Env) (whole : Sem Value) : isTrue e env whole = (do let v ← whole; standAt e.pos; holding [v] (truthy v)) := by
  cases e with
  | UnaryOp => cases h
  | BoolOp => cases h
  | IfExp => cases h
  | Compare => cases h
  | _ => rfl
theorem not_boolB (hp : plainB e = true) (hb : boolB e = true) : False := by
  cases e with
  | BoolOp => cases (show false = true from hp)
  | _ => cases (show false = true from hb)
/-- from the value alone -/
theorem GoodE.of {ie : IE} (h : PE X e (tE L n W ie)) (hp : plainB e = true) (ho : ie.freshB = true → PE X e (tO L n W ie) := by intro z; cases z) : GoodE L n W X ie e :=
  ⟨fun _ => h, h.imp fun _ _ _ q => tE_of_tB q, fun _ => (pt_val h fun wh => plain_true e hp _ wh).imp fun _ _ _ q => tT_val q, fun _ hb => (not_boolB hp hb).elim, ho⟩
theorem GoodE.of2 {ie : IE} (h : PE X e (tE L n W ie)) (ht : PT X e (tT L n W ie)) (hb : boolB e = false) (ho : ie.freshB = true → PE X e (tO L n W ie) := by intro z; cases z) : GoodE L n W X ie e :=
  ⟨fun _ => h, h.imp fun _ _ _ q => tE_of_tB q, fun _ => ht, fun _ z => by (rw [hb] at z; cases z), ho⟩
theorem GoodE.nev : GoodE L n W X .nev e := by
  have h1 : PE X e (tE L n W .nev) := ⟨fun _ _ _ _ _ _ ⟨_, _, _, _, _, _, _, h⟩ => h.elim⟩
  have h2 : PW X e (tT L n W .nev) := ⟨fun _ _ _ _ _ _ _ ⟨_, _, _, _, _, _, _, h⟩ => h.elim⟩
  exact ⟨fun _ => h1, h1.imp fun _ _ _ q => tE_of_tB q, fun _ => h2.pt, fun _ _ => h2, fun _ => ⟨fun _ _ _ _ _ _ ⟨_, _, _, _, _, _, _, h⟩ => h.elim⟩⟩

/-! ### names, constants -/
theorem snd_nev : SndE L .nev := fun P n sc X W e c m => .nev
theorem snd_nil : SndE L .nil := fun P n sc X W e c m => by cases (show false = true from m)
theorem snd_var (i : Nat) : SndE L (.var i) := fun P n sc X W e c m => by
  cases e with
  | Name x pos =>
    rw [mE_var] at m; simp only [Bool.and_eq_true, decide_eq_true_eq, okN, Bool.not_eq_true'] at m
    obtain ⟨⟨m1, m2⟩, m3, m4⟩ := m
    refine .of ((pe_var (i := i) (by rw [c.N]; exact m1) (c.vis m2) m3 m4).imp fun σ H Q h => ?_) rfl
    obtain ⟨F0, H0, F, S, D, r, s, h⟩ := h
    rw [evE_var] at h
    split at h
    · rename_i v e1
      obtain ⟨x, h1, h2⟩ := s.sl i v e1
      exact ⟨x, h1, Fin.now r h h2⟩
    · exact h.elim
  | _ => cases (show false = true from m)
theorem snd_bvar (i : Nat) : SndE L (.bvar i) := fun P n sc X W e c m => by
  cases e with
  | Name x pos =>
    rw [mE_bvar] at m; simp only [Bool.and_eq_true, decide_eq_true_eq, okN, Bool.not_eq_true'] at m
    obtain ⟨⟨m1, m2⟩, m3, m4⟩ := m
    refine ⟨fun z => by simp [IE.isB] at z, ?_, fun z => by simp [IE.isB] at z, fun z => by simp [IE.isB] at z, fun z => by cases z⟩
    refine (pe_var (i := i) (by rw [c.N]; exact m1) (c.vis m2) m3 m4).imp fun σ H Q h => ?_
    obtain ⟨F0, H0, F, S, D, r, s, h⟩ := h
    rw [evE_bvar] at h
    split at h
    · rename_i v e1
      obtain ⟨x, h1, h2⟩ := s.sl i v e1
      exact ⟨x, h1, h F H x r.refl (.of h2)⟩
    · rename_i v e1
      obtain ⟨a, h1, h2, h3, h4, h5, h6⟩ := s.ow i v e1
      exact ⟨.ref a, h1, h F H _ r.refl (.inr ⟨a, rfl, h2, h5, h6⟩)⟩
    · exact h.elim
  | _ => cases (show false = true from m)
theorem snd_cst (v : PV) : SndE L (.cst v) := fun P n sc X W e c m => by
  have fin : ∀ {u : V}, PE X e (tC u) → (∀ F, Rep L.g F u v) → plainB e = true → GoodE L n W X (.cst v) e := fun {u} h ru hp => .of (h.imp fun σ H Q h => by
    obtain ⟨F0, H0, F, S, D, r, s, h⟩ := h
    rw [evE_cst] at h
    exact Fin.now r h (ru F)) hp
  cases e with
  | Constant k j pos =>
    cases v with
    | int i =>
      cases k with
      | int i' =>
        rw [mE_cst] at m; simp only [cstB, decide_eq_true_eq] at m
        subst m
        exact fin pe_int (fun _ => .int _) rfl
      | _ => cases (show false = true from m)
    | bl i =>
      cases k with
      | bool i' =>
        rw [mE_cst] at m; simp only [cstB, decide_eq_true_eq] at m
        subst m
        exact fin pe_bl (fun _ => .bl _) rfl
      | _ => cases (show false = true from m)
    | str i =>
      cases k with
      | str i' =>
        rw [mE_cst] at m; simp only [cstB, Bool.and_eq_true, decide_eq_true_eq] at m
        obtain ⟨m, mz⟩ := m
        subst m
        exact fin pe_str (fun _ => .str _ (Nat.le_trans mz (by decide))) rfl
      | _ => cases (show false = true from m)
    | non =>
      cases k with
      | none => exact fin pe_non (fun _ => .non) rfl
      | _ => cases (show false = true from m)
    | _ => cases k <;> cases (show false = true from m)
  | _ => cases v <;> cases (show false = true from m)
theorem snd_glb (k : Nat) : SndE L (.glb k) := fun P n sc X W e c m => by
  cases e with
  | Name x pos =>
    rw [mE_glb] at m; simp only [Bool.and_eq_true, decide_eq_true_eq, okN, Bool.not_eq_true'] at m
    obtain ⟨⟨m1, m2⟩, m3, m4⟩ := m
    rw [c.T] at m1
    cases e1 : L.T.consts[k]? with
    | none => rw [e1] at m1; cases m1
    | some p =>
      rw [e1] at m1
      cases m1
      obtain ⟨u, v, h1, h2, h3⟩ := c.law.consts k p e1
      refine .of ((pe_glob (v := v) (u := u) (c.gl m2) (by rw [c.mg]; exact h1) h2 m3).imp fun σ H Q h => ?_) rfl
      obtain ⟨F0, H0, F, S, D, r, s, h⟩ := h
      rw [evE_glb] at h; simp only [e1] at h
      exact Fin.now r h (h3 F)
  | _ => cases (show false = true from m)

/-! ### operators -/
def bopO : BOp → Operator
  | .add => .Add | .sub => .Sub | .mul => .Mult | .fdiv => .FloorDiv | .mod => .Mod | .pow => .Pow
theorem bop_eq {o : BOp} {p : Operator} (h : bopB o p = true) : p = bopO o := by cases o <;> cases p <;> first | rfl | cases h
theorem cop_eq {o : COp} {p : CmpOp} (h : copB o p = true) : p = opC o := by cases o <;> cases p <;> first | rfl | cases h
def rBin (K : PySem.W.Frag) : BOp → R2
  | .add => rAdd K
  | .sub => rI0 fun i j => .int (i - j)
  | .mul => rMul
  | .fdiv => rI CDivA fun i j => .int (i.fdiv j)
  | .mod => rI (fun _ j => j ≠ 0) fun i j => .int (i.fmod j)
  | .pow => rI CPow fun i j => .int (i ^ j.toNat)
theorem op_bin {X : Cx} : ∀ o, OpR X (binaryOp (bopO o)) (rBin X.K o)
  | .add => op_addA
  | .sub => op_sub
  | .mul => op_mulA
  | .fdiv => op_fdivA
  | .mod => op_modN
  | .pow => op_pow
theorem bin_ok {g : GD} {F0 H0 F H : Hp} {D : Dr} {Q : VK} {v va vb : PV} {x y : V} (o : BOp) (r : RB g F0 H0 F H D) (hx : BRep g F H x va) (hy : BRep g F H y vb) (e : binV o va vb = some v) (q : Fin g F H D Q v) : rBin g.K o x y H Q := by
  cases o with
  | add => exact add_ok r hx hy e q
  | sub => exact sub_ok r hx hy e q
  | mul => exact mul_ok r hx hy e q
  | fdiv => exact fdiv_ok r hx hy e q
  | mod => exact mod_ok r hx hy e q
  | pow => exact pow_ok r hx hy e q
theorem add_new {g : GD} {F0 H0 F H : Hp} {D : Dr} {Q : VK} {va vb : PV} {ds : List PV} {x y : V} (r : RB g F0 H0 F H D) (hx : BRep g F H x va) (hy : BRep g F H y vb) (e : binV .add va vb = some (.lst ds)) (q : FinL g F H D Q ds) : rAdd g.K x y H Q := by
  cases va with
  | lst a =>
    cases vb with
    | lst b =>
      simp only [binV] at e
      split at e
      · rename_i z
        cases e
        exact add_lst r hx hy z q
      · cases e
    | _ => cases e
  | int a => cases vb <;> cases e
  | str a =>
    cases vb with
    | str b =>
      simp only [binV] at e
      split at e <;> cases e
    | _ => cases e
  | tup a =>
    cases vb with
    | tup b =>
      simp only [binV] at e
      split at e <;> cases e
    | _ => cases e
  | _ => cases vb <;> cases e
theorem snd_bin (o : BOp) {a b : IE} (ia : SndE L a) (ib : SndE L b) : SndE L (.bin o a b) := fun P n sc X W e c m => by
  cases e with
  | BinOp x p y pos =>
    rw [mE_bin] at m; simp only [Bool.and_eq_true] at m
    obtain ⟨⟨m1, m2⟩, m3⟩ := m
    rw [bop_eq m1]
    refine .of ((pe_op (op_bin o) (ia P n sc X W x c m2).pb (ib P n sc X W y c m3).pb).imp fun σ H Q h => ?_) rfl ?_
    rotate_left
    · intro hf
      cases o with
      | add =>
        refine (pe_op (op_bin .add) (ia P n sc X W x c m2).pb (ib P n sc X W y c m3).pb).imp fun σ H Q h => ?_
        obtain ⟨F0, H0, F, S, D, r, s, h⟩ := h
        rw [evE_bin] at h
        refine stepB r s h fun F1 H1 x va D1 r1 p1 s1 hx h1 => stepB r1 s1 h1 fun F2 H2 y vb D2 r2 p2 s2 hy h2 => ?_
        obtain ⟨v, ev, ds, e1, q⟩ := h2.lift
        subst e1
        rw [c.K]
        exact add_new r2 (hx.grow p2) hy ev (q.shift (p1.trans p2))
      | _ => cases hf
    obtain ⟨F0, H0, F, S, D, r, s, h⟩ := h
    rw [evE_bin] at h
    refine stepB r s h fun F1 H1 x va D1 r1 p1 s1 hx h1 => stepB r1 s1 h1 fun F2 H2 y vb D2 r2 p2 s2 hy h2 => ?_
    obtain ⟨v, ev, q⟩ := h2.lift
    rw [c.K]
    exact bin_ok o r2 (hx.grow p2) hy ev (q.shift (p1.trans p2))
  | _ => cases (show false = true from m)
theorem snd_cmp (o : COp) {a b : IE} (ia : SndE L a) (ib : SndE L b) : SndE L (.cmp o a b) := fun P n sc X W e c m => by
  cases e with
  | Compare x ps ys pos =>
    match ps, ys, m with
    | [p], [y], m =>
      rw [mE_cmp] at m; simp only [Bool.and_eq_true, Bool.not_eq_true'] at m
      obtain ⟨⟨⟨m1, m2⟩, m3⟩, m4⟩ := m
      rw [cop_eq m1] at m4 ⊢
      have key : ∀ {σ : L2.St} {H : Hp} {Q : VK}, tE L n W (.cmp o a b) σ H Q → tOp (rCmp X.K o) (BA.tB L n W a) (BA.tB L n W b) σ H Q := fun {σ H Q} h => by
        obtain ⟨F0, H0, F, S, D, r, s, h⟩ := h
        rw [evE_cmp] at h
        refine stepB r s h fun F1 H1 x va D1 r1 p1 s1 hx h1 => stepB r1 s1 h1 fun F2 H2 y vb D2 r2 p2 s2 hy h2 => ?_
        obtain ⟨v, ev, q⟩ := h2.lift
        obtain ⟨k, e1, e2⟩ := Option.map_eq_some_iff.mp ev
        subst e2
        rw [c.K]
        exact cmp_ok o r2 (hx.grow p2) hy e1 (q.shift (p1.trans p2))
      refine .of2 ((pe_cmpR (op_cmp c.units o) (ia P n sc X W x c m2).pb (ib P n sc X W y c m3).pb m4).imp fun σ H Q h => key h) ((pt_cmpR (op_cmp c.units o) (ia P n sc X W x c m2).pb (ib P n sc X W y c m3).pb m4).imp fun σ H Q h => ?_) rfl
      exact key (tT_val h)
    | [], _, m => cases (show false = true from m)
    | _ :: _ :: _, _, m => cases (show false = true from m)
    | [_], [], m => cases (show false = true from m)
    | [_], _ :: _ :: _, m => cases (show false = true from m)
  | _ => cases (show false = true from m)
theorem snd_chn (o1 o2 : COp) {a b d : IE} (ia : SndE L a) (ib : SndE L b) (id : SndE L d) : SndE L (.chn o1 o2 a b d) := fun P n sc X W e c m => by
  cases e with
  | Compare x ps ys pos =>
    match ps, ys, m with
    | [p, q], [y, z], m =>
      rw [mE_chn] at m; simp only [Bool.and_eq_true, Bool.not_eq_true'] at m
      obtain ⟨⟨⟨⟨⟨m1, m1'⟩, m2⟩, m3⟩, m4⟩, m5⟩ := m
      rw [cop_eq m1'] at m5
      rw [cop_eq m1, cop_eq m1']
      have hm : lastMarks [opC o1, opC o2] [y, z] = false := m5
      have key : ∀ {σ : L2.St} {H : Hp} {Q : VK}, tE L n W (.chn o1 o2 a b d) σ H Q → tChain (rCmp X.K o1) (rCmp X.K o2) (BA.tB L n W a) (BA.tB L n W b) (BA.tB L n W d) σ H Q := fun {σ H Q} h => by
        obtain ⟨F0, H0, F, S, D, r, s, h⟩ := h
        rw [evE_chn] at h
        refine stepB r s h fun F1 H1 x va D1 r1 p1 s1 hx h1 => stepB r1 s1 h1 fun F2 H2 y vb D2 r2 p2 s2 hy h2 => ?_
        obtain ⟨k, e1, h3⟩ := h2.bind.lift
        rw [c.K]
        refine cmp_ok o1 r2 (hx.grow p2) hy e1 fun F3 H3 z p3 hz => ?_
        cases hz
        refine ⟨k, rfl, ?_⟩
        cases k with
        | true =>
          simp only [if_true] at h3 ⊢
          refine stepB (r2.trans p3) (s2.grow p3) (h3.shift p3) fun F4 H4 z vc D4 r4 p4 s4 hz h4 => ?_
          obtain ⟨v, ev, q⟩ := h4.lift
          obtain ⟨k, e1, e2⟩ := Option.map_eq_some_iff.mp ev
          subst e2
          exact cmp_ok o2 r4 (hy.grow (p3.trans p4)) hz e1 (q.shift (((p1.trans p2).trans p3).trans p4))
        | false =>
          simp only [Bool.false_eq_true, if_false] at h3 ⊢
          exact Fin.now (r2.trans p3) (Fin.shift ((p1.trans p2).trans p3) h3) (.bl _)
      refine .of2 ((pe_chain (op_cmp c.units o1) (op_cmp c.units o2) (ia P n sc X W x c m2).pb (ib P n sc X W y c m3).pb (id P n sc X W z c m4).pb hm).imp fun σ H Q h => key h)
        ((pt_chain (op_cmp c.units o1) (op_cmp c.units o2) (ia P n sc X W x c m2).pb (ib P n sc X W y c m3).pb (id P n sc X W z c m4).pb hm).imp fun σ H Q h => key (tT_val h)) rfl
    | [], _, m => cases (show false = true from m)
    | [_], _, m => cases (show false = true from m)
    | _ :: _ :: _ :: _, _, m => cases (show false = true from m)
    | [_, _], [], m => cases (show false = true from m)
    | [_, _], [_], m => cases (show false = true from m)
    | [_, _], _ :: _ :: _ :: _, m => cases (show false = true from m)
  | _ => cases (show false = true from m)
end
end BA
/-! BaSndE2 -/
set_option linter.all false
set_option maxRecDepth 100000
set_option maxHeartbeats 1000000
/-! BaSndE2: and, or, not, if; displays; items, slices; arguments; calls. -/
namespace BA
open PySem PySem.Spec PyProof.Rows L2 LamX
section
variable {L : LW} {P : MP} {n : Nat} {sc : Scope} {X : Cx} {W : XK} {e : Expr}
theorem tru_bl {v : PV} {b : Bool} (h : truV v = some b) : v = .bl b := by
  cases v with
  | bl c => cases h; rfl
  | _ => cases h
theorem rep_bl {g : GD} {F : Hp} {x : V} {b : Bool} (h : Rep g F x (.bl b)) : x = .bl b := by cases h; rfl
theorem snd_not {a : IE} (ia : SndE L a) : SndE L (.not a) := fun P n sc X W e c m => by
  cases e with
  | UnaryOp p x pos =>
    rw [mE_not] at m; simp only [Bool.and_eq_true, decide_eq_true_eq, Bool.not_eq_true'] at m
    obtain ⟨⟨rfl, m2⟩, m3⟩ := m
    have g := ia P n sc X W x c m2
    refine .of2 ((pe_not (g.pe m3)).imp fun σ H Q h => ?_) ((pt_not (g.pt m3)).imp fun σ H Q h => ?_) rfl
    · obtain ⟨F0, H0, F, S, D, r, s, h⟩ := h
      rw [evE_not] at h
      refine stepE r s h fun F1 H1 x v D1 r1 p1 s1 hx h1 => ?_
      obtain ⟨b, eb, h2⟩ := h1.bind.lift
      have ev := tru_bl eb
      subst ev
      exact ⟨b, rep_bl hx, Fin.now r1 (Fin.shift p1 h2) (.bl _)⟩
    · obtain ⟨F0, H0, F, S, D, r, s, h⟩ := h
      rw [evE_not] at h
      simp only [M.bind_assoc, M.pure_bind] at h
      refine stepT r s h fun F1 H1 b D1 r1 p1 s1 h1 => ?_
      obtain ⟨b', eb, q⟩ := h1.lift
      cases eb
      exact q F1 H1 p1
  | _ => cases (show false = true from m)
theorem and_pe {a b : IE} {σ : L2.St} {H : Hp} {Q : VK} (h : tE L n W (.and a b) σ H Q) : tAndV (tE L n W a) (tE L n W b) σ H Q := by
  obtain ⟨F0, H0, F, S, D, r, s, h⟩ := h
  rw [evE_and] at h
  refine stepE r s h fun F1 H1 x v D1 r1 p1 s1 hx h1 => ?_
  obtain ⟨k, eb, h2⟩ := h1.bind.lift
  have ev := tru_bl eb
  subst ev
  refine ⟨k, rep_bl hx, ?_⟩
  cases k with
  | true =>
    simp only [if_true] at h2 ⊢
    exact ⟨F0, H0, F1, S, D1, r1, s1, h2.mono fun v D2 q => Fin.shift p1 q⟩
  | false =>
    simp only [Bool.false_eq_true, if_false] at h2 ⊢
    exact Fin.now r1 (Fin.shift p1 h2) (.bl _)
theorem or_pe {a b : IE} {σ : L2.St} {H : Hp} {Q : VK} (h : tE L n W (.or a b) σ H Q) : tOrV (tE L n W a) (tE L n W b) σ H Q := by
  obtain ⟨F0, H0, F, S, D, r, s, h⟩ := h
  rw [evE_or] at h
  refine stepE r s h fun F1 H1 x v D1 r1 p1 s1 hx h1 => ?_
  obtain ⟨k, eb, h2⟩ := h1.bind.lift
  have ev := tru_bl eb
  subst ev
  refine ⟨k, rep_bl hx, ?_⟩
  cases k with
  | false =>
    simp only [Bool.false_eq_true, if_false] at h2 ⊢
    exact ⟨F0, H0, F1, S, D1, r1, s1, h2.mono fun v D2 q => Fin.shift p1 q⟩
  | true =>
    simp only [if_true] at h2 ⊢
    exact Fin.now r1 (Fin.shift p1 h2) (.bl _)
theorem PostM_ite {g : GD} {W : XK} {F H : Hp} {α β : Type} {R : β → Dr → Prop} {k : Bool} {m1 m2 : M α} {f : α → M β} {D : Dr} (h : PostM g W F H R (((if k = true then m1 else m2) >>= f) D)) : if k = true then PostM g W F H R ((m1 >>= f) D) else PostM g W F H R ((m2 >>= f) D) := by
  cases k <;> simpa using h
theorem FinT.shift {g : GD} {F H F' H' : Hp} {D D1 : Dr} {Q : Bool → Hp → Prop} {b : Bool} (q : RB g F H F' H' D1) (h : FinT g F H D Q b) : FinT g F' H' D Q b := fun F2 H2 r => h F2 H2 (q.trans r)
theorem and_pt {a b : IE} {σ : L2.St} {H : Hp} {Q : Bool → Hp → Prop} (h : tT L n W (.and a b) σ H Q) : tAnd (tT L n W a) (tT L n W b) σ H Q := by
  obtain ⟨F0, H0, F, S, D, r, s, h⟩ := h
  rw [evE_and] at h
  simp only [M.bind_assoc] at h
  refine stepT r s h fun F1 H1 k D1 r1 p1 s1 h1 => ?_
  have h2 := PostM_ite h1
  cases k with
  | true =>
    simp only [if_true] at h2 ⊢
    exact ⟨F0, H0, F1, S, D1, r1, s1, h2.mono fun v D2 q => FinT.shift p1 q⟩
  | false =>
    simp only [Bool.false_eq_true, if_false] at h2 ⊢
    obtain ⟨b', eb, q⟩ := PostM.lift (p := truV (.bl false)) h2
    cases eb
    exact q F1 H1 p1
theorem or_pt {a b : IE} {σ : L2.St} {H : Hp} {Q : Bool → Hp → Prop} (h : tT L n W (.or a b) σ H Q) : tOr (tT L n W a) (tT L n W b) σ H Q := by
  obtain ⟨F0, H0, F, S, D, r, s, h⟩ := h
  rw [evE_or] at h
  simp only [M.bind_assoc] at h
  refine stepT r s h fun F1 H1 k D1 r1 p1 s1 h1 => ?_
  have h2 := PostM_ite h1
  cases k with
  | false =>
    simp only [Bool.false_eq_true, if_false] at h2 ⊢
    exact ⟨F0, H0, F1, S, D1, r1, s1, h2.mono fun v D2 q => FinT.shift p1 q⟩
  | true =>
    simp only [if_true] at h2 ⊢
    obtain ⟨b', eb, q⟩ := PostM.lift (p := truV (.bl true)) h2
    cases eb
    exact q F1 H1 p1
theorem snd_and {a b : IE} (ia : SndE L a) (ib : SndE L b) : SndE L (.and a b) := fun P n sc X W e c m => by
  cases e with
  | BoolOp op es pos =>
    match op, es, m with
    | .And, x :: y :: [], m =>
      rw [mE_and] at m; simp only [Bool.and_eq_true, Bool.not_eq_true'] at m
      obtain ⟨⟨⟨m1, m2⟩, m3⟩, m4⟩ := m
      have ga := ia P n sc X W x c m1
      have gb := ib P n sc X W y c m2
      have h1 : PE X (.BoolOp .And (x :: [y]) pos) (tE L n W (.and a b)) := (pe_and (ga.pe m3) (pe_one (gb.pe m4))).imp fun σ H Q h => and_pe h
      have h2 : PW X (.BoolOp .And (x :: [y]) pos) (tT L n W (.and a b)) := (pw_and (ga.pt m3) (pw_and1 (gb.pt m4))).imp fun σ H Q h => and_pt h
      exact ⟨fun _ => h1, h1.imp fun _ _ _ q => tE_of_tB q, fun _ => h2.pt, fun _ _ => h2, fun z => by cases z⟩
    | .And, x :: y :: z :: r, m =>
      rw [mE_and] at m; simp only [Bool.and_eq_true, Bool.not_eq_true'] at m
      obtain ⟨⟨⟨m1, m2⟩, m3⟩, m4⟩ := m
      have ga := ia P n sc X W x c m1
      have gb := ib P n sc X W _ c m2
      have h1 : PE X (.BoolOp .And (x :: y :: z :: r) pos) (tE L n W (.and a b)) := (pe_and (ga.pe m3) (gb.pe m4)).imp fun σ H Q h => and_pe h
      have h2 : PW X (.BoolOp .And (x :: y :: z :: r) pos) (tT L n W (.and a b)) := (pw_and (ga.pt m3) (gb.pw m4 rfl)).imp fun σ H Q h => and_pt h
      exact ⟨fun _ => h1, h1.imp fun _ _ _ q => tE_of_tB q, fun _ => h2.pt, fun _ _ => h2, fun z => by cases z⟩
    | .And, [], m => cases (show false = true from m)
    | .And, [_], m => cases (show false = true from m)
    | .Or, _, m => cases (show false = true from m)
  | _ => cases (show false = true from m)
theorem snd_or {a b : IE} (ia : SndE L a) (ib : SndE L b) : SndE L (.or a b) := fun P n sc X W e c m => by
  cases e with
  | BoolOp op es pos =>
    match op, es, m with
    | .Or, x :: y :: [], m =>
      rw [mE_or] at m; simp only [Bool.and_eq_true, Bool.not_eq_true'] at m
      obtain ⟨⟨⟨m1, m2⟩, m3⟩, m4⟩ := m
      have ga := ia P n sc X W x c m1
      have gb := ib P n sc X W y c m2
      have h1 : PE X (.BoolOp .Or (x :: [y]) pos) (tE L n W (.or a b)) := (pe_or (ga.pe m3) (pe_one (gb.pe m4))).imp fun σ H Q h => or_pe h
      have h2 : PW X (.BoolOp .Or (x :: [y]) pos) (tT L n W (.or a b)) := (pw_or (ga.pt m3) (pw_or1 (gb.pt m4))).imp fun σ H Q h => or_pt h
      exact ⟨fun _ => h1, h1.imp fun _ _ _ q => tE_of_tB q, fun _ => h2.pt, fun _ _ => h2, fun z => by cases z⟩
    | .Or, x :: y :: z :: r, m =>
      rw [mE_or] at m; simp only [Bool.and_eq_true, Bool.not_eq_true'] at m
      obtain ⟨⟨⟨m1, m2⟩, m3⟩, m4⟩ := m
      have ga := ia P n sc X W x c m1
      have gb := ib P n sc X W _ c m2
      have h1 : PE X (.BoolOp .Or (x :: y :: z :: r) pos) (tE L n W (.or a b)) := (pe_or (ga.pe m3) (gb.pe m4)).imp fun σ H Q h => or_pe h
      have h2 : PW X (.BoolOp .Or (x :: y :: z :: r) pos) (tT L n W (.or a b)) := (pw_or (ga.pt m3) (gb.pw m4 rfl)).imp fun σ H Q h => or_pt h
      exact ⟨fun _ => h1, h1.imp fun _ _ _ q => tE_of_tB q, fun _ => h2.pt, fun _ _ => h2, fun z => by cases z⟩
    | .Or, [], m => cases (show false = true from m)
    | .Or, [_], m => cases (show false = true from m)
    | .And, _, m => cases (show false = true from m)
  | _ => cases (show false = true from m)
theorem pt_ifExp {X : Cx} {c a b : Expr} {pos : Pos} {tA ta tb : TT} (hc : PT X c tA) (ha : PT X a ta) (hb : PT X b tb) : PT X (.IfExp c a b pos) (fun σ H Q => tA σ H fun d H1 => if d = true then ta σ H1 Q else tb σ H1 Q) := by
  refine ⟨fun pins s σ H Q I h => ?_⟩
  show wpAny _ _ (do if ← isTrue c X.env (eval c X.env) then isTrue a X.env (eval a X.env) else isTrue b X.env (eval b X.env)) _ _ s
  refine wpAny_bind (thn (hc.run pins s σ H _ I h) fun d s1 ⟨H1, I1, q1⟩ => ?_)
  cases d with
  | true => exact ha.run pins s1 σ H1 Q I1 q1
  | false => exact hb.run pins s1 σ H1 Q I1 q1
theorem snd_ite {a b d : IE} (id : SndE L d) (ia : SndE L a) (ib : SndE L b) : SndE L (.ite d a b) := fun P n sc X W e c m => by
  cases e with
  | IfExp z x y pos =>
    rw [mE_ite] at m; simp only [Bool.and_eq_true, Bool.not_eq_true'] at m
    obtain ⟨⟨⟨⟨⟨m1, m2⟩, m3⟩, m4⟩, m5⟩, m6⟩ := m
    have gd := id P n sc X W z c m1
    have ga := ia P n sc X W x c m2
    have gb := ib P n sc X W y c m3
    refine .of2 ((pe_ifExp (gd.pt m6) (ga.pe m4) (gb.pe m5)).imp fun σ H Q h => ?_) ((pt_ifExp (gd.pt m6) (ga.pt m4) (gb.pt m5)).imp fun σ H Q h => ?_) rfl
    · obtain ⟨F0, H0, F, S, D, r, s, h⟩ := h
      rw [evE_ite] at h
      refine stepT r s h fun F1 H1 k D1 r1 p1 s1 h1 => ?_
      cases k with
      | true =>
        simp only [if_true] at h1 ⊢
        exact ⟨F0, H0, F1, S, D1, r1, s1, h1.mono fun v D2 q => Fin.shift p1 q⟩
      | false =>
        simp only [Bool.false_eq_true, if_false] at h1 ⊢
        exact ⟨F0, H0, F1, S, D1, r1, s1, h1.mono fun v D2 q => Fin.shift p1 q⟩
    · obtain ⟨F0, H0, F, S, D, r, s, h⟩ := h
      rw [evE_ite] at h
      simp only [M.bind_assoc] at h
      refine stepT r s h fun F1 H1 k D1 r1 p1 s1 h1 => ?_
      have h2 := PostM_ite h1
      cases k with
      | true =>
        simp only [if_true] at h2 ⊢
        exact ⟨F0, H0, F1, S, D1, r1, s1, h2.mono fun v D2 q => FinT.shift p1 q⟩
      | false =>
        simp only [Bool.false_eq_true, if_false] at h2 ⊢
        exact ⟨F0, H0, F1, S, D1, r1, s1, h2.mono fun v D2 q => FinT.shift p1 q⟩
  | _ => cases (show false = true from m)
theorem snd_neg {a : IE} (ia : SndE L a) : SndE L (.neg a) := fun P n sc X W e c m => by
  cases e with
  | UnaryOp p x pos =>
    rw [mE_neg] at m; simp only [Bool.and_eq_true, decide_eq_true_eq] at m
    obtain ⟨rfl, m2⟩ := m
    have h0 : PE X (.UnaryOp .USub x pos) (tE L n W (.neg a)) := by
      refine (pe_un un_neg (ia P n sc X W x c m2).pb).imp fun σ H Q h => ?_
      obtain ⟨F0, H0, F, S, D, r, s, h⟩ := h
      rw [evE_neg] at h
      refine stepB r s h fun F1 H1 x v D1 r1 p1 s1 hx h1 => ?_
      obtain ⟨u, eu, q⟩ := h1.lift
      cases v with
      | int i =>
        cases eu
        exact ⟨i, hx.int, Fin.now r1 (Fin.shift p1 q) (.int _)⟩
      | _ => cases eu
    exact ⟨fun _ => h0, h0.imp fun _ _ _ q => tE_of_tB q, fun _ => (pt_val h0 fun wh => rfl).imp fun _ _ _ q => tT_val q, fun _ z => (by cases z), fun z => (by cases z)⟩
  | _ => cases (show false = true from m)

/-! ### arguments -/
theorem star_cons {x : Expr} (h : nostarB x = true) (es : List Expr) (env : PySem.Env) : starEach (x :: es) env = (false, eval x env) :: starEach es env := by
  cases x with
  | Starred => cases (show false = true from h)
  | _ => rfl
theorem snda_nil : SndA L .nil := fun P n sc X W strong star es c m => by
  cases es with
  | nil =>
    refine ⟨fun _ => pa_nil.imp fun σ H Q h => ?_, fun _ => pa_nil.imp fun σ H Q h => ?_⟩
    · obtain ⟨F0, H0, F, S, D, r, s, h⟩ := h
      exact h F H [] r.refl .nil
    · obtain ⟨F0, H0, F, S, D, r, s, h⟩ := h
      exact h F H [] r.refl .nil
  | cons => cases (show false = true from m)
theorem snda_cons {a : IE} {as : IA} (ia : SndE L a) (ias : SndA L as) : SndA L (.cons a as) := fun P n sc X W strong star es c m => by
  cases es with
  | nil => cases (show false = true from m)
  | cons x xs =>
    rw [mA_cons] at m; simp only [Bool.and_eq_true] at m
    obtain ⟨⟨⟨m1, m2⟩, m3⟩, m4⟩ := m
    have ga := ia P n sc X W x c m2
    have gs := ias P n sc X W strong star xs c m4
    refine ⟨fun hs => ?_, fun hs => ?_⟩
    · subst hs
      have nb : a.isB = false := by simpa using m3
      refine (pa_cons (ga.pe nb) (gs.pa rfl) (star_cons m1 _ _)).imp fun σ H Q h => ?_
      obtain ⟨F0, H0, F, S, D, r, s, h⟩ := h
      rw [evA_cons] at h
      refine stepE r s h fun F1 H1 x v D1 r1 p1 s1 hx h1 => stepA r1 s1 h1 fun F2 H2 xs vs D2 r2 p2 s2 hxs h2 => ?_
      exact h2 F2 H2 (x :: xs) (p1.trans p2) (.cons (hx.mono p2.f0) hxs)
    · subst hs
      refine (pa_cons ga.pb (gs.pb rfl) (star_cons m1 _ _)).imp fun σ H Q h => ?_
      obtain ⟨F0, H0, F, S, D, r, s, h⟩ := h
      rw [evA_cons] at h
      refine stepB r s h fun F1 H1 x v D1 r1 p1 s1 hx h1 => stepAB r1 s1 h1 fun F2 H2 xs vs D2 r2 p2 s2 hxs h2 => ?_
      exact h2 F2 H2 (x :: xs) (p1.trans p2) (.cons (hx.grow p2) hxs)
theorem rep_seq {g : GD} {F H : Hp} {x : V} {v : PV} {ws : List PV} (e : Same F H) (hx : Rep g F x v) (h : seqV v = some ws) : ∃ p xs, x = .ref p ∧ (SqT g.K H p xs ∨ SqL g.K H p xs) ∧ RepAll g F xs ws := by
  cases v with
  | lst => cases h; obtain ⟨a, xs, rfl, h1, h2, _⟩ := (BRep.of hx).lst e; exact ⟨a, xs, rfl, .inr (.inl h1), h2⟩
  | tup => cases h; obtain ⟨a, xs, rfl, h1, h2, _⟩ := (BRep.of hx).tup e; exact ⟨a, xs, rfl, .inl h1, h2⟩
  | _ => cases h
theorem snda_star {a : IE} {as : IA} (ia : SndE L a) (ias : SndA L as) : SndA L (.star a as) := fun P n sc X W strong star es c m => by
  cases es with
  | nil => cases (show false = true from m)
  | cons x xs =>
    cases x with
    | Starred x pos =>
      rw [mA_star] at m; simp only [Bool.and_eq_true, Bool.not_eq_true'] at m
      obtain ⟨⟨⟨m1, m2⟩, m3⟩, m4⟩ := m
      have ga := ia P n sc X W x c m2
      have gs := ias P n sc X W strong star xs c m4
      have key : ∀ {g : GD} {F : Hp} {vs : List V} {ds : List PV} {H : Hp}, RepAll g F vs ds → BAll g F H vs ds := fun {g F vs ds H} r => by
        induction ds generalizing vs with
        | nil => cases r; exact .nil
        | cons d ds ih => cases r with | cons h t => exact .cons (.of h) (ih t)
      have app : ∀ {g : GD} {F : Hp} {vs ws : List V} {ds es : List PV} {H : Hp}, BAll g F H vs ds → BAll g F H ws es → BAll g F H (vs ++ ws) (ds ++ es) := fun {g F vs ws ds es H} r q => by
        induction ds generalizing vs with
        | nil => cases r; exact q
        | cons d ds ih => cases r with | cons h t => exact .cons h (ih t)
      refine ⟨fun hs => ?_, fun hs => ?_⟩
      · subst hs
        refine (StX.pa_star (ga.pe m3) (gs.pa rfl)).imp fun σ H Q h => ?_
        obtain ⟨F0, H0, F, S, D, r, s, h⟩ := h
        rw [evA_star] at h
        refine stepE r s h fun F1 H1 x v D1 r1 p1 s1 hx h1 => ?_
        obtain ⟨ws, ew, h2⟩ := h1.bind.lift
        obtain ⟨p, ys, rfl, hp, ra⟩ := rep_seq r1.ext hx ew
        rw [c.K]
        refine ⟨p, ys, rfl, hp, stepA r1 s1 h2 fun F2 H2 xs vs D2 r2 p2 s2 hxs h3 => ?_⟩
        exact h3 F2 H2 _ (p1.trans p2) ((ra.mono p2.f0).append hxs)
      · subst hs
        refine (StX.pa_star (ga.pe m3) (gs.pb rfl)).imp fun σ H Q h => ?_
        obtain ⟨F0, H0, F, S, D, r, s, h⟩ := h
        rw [evA_star] at h
        refine stepE r s h fun F1 H1 x v D1 r1 p1 s1 hx h1 => ?_
        obtain ⟨ws, ew, h2⟩ := h1.bind.lift
        obtain ⟨p, ys, rfl, hp, ra⟩ := rep_seq r1.ext hx ew
        rw [c.K]
        refine ⟨p, ys, rfl, hp, stepAB r1 s1 h2 fun F2 H2 xs vs D2 r2 p2 s2 hxs h3 => ?_⟩
        exact h3 F2 H2 _ (p1.trans p2) (app (key (ra.mono p2.f0)) hxs)
    | _ => cases (show false = true from m)

/-! ### displays -/
theorem PostM.tell {g : GD} {W : XK} {F H : Hp} {α : Type} {R : α → Dr → Prop} {o : Option (Out α × Dr)} (h : PostM g W F H R o) {p : α → Prop} (hp : ∀ a D', o = some (.ok a, D') → p a) : PostM g W F H (fun a D' => p a ∧ R a D') o := by
  cases o with
  | none => exact h
  | some q =>
    obtain ⟨y, d⟩ := q
    cases y with
    | ok a => exact ⟨hp a d rfl, h⟩
    | exn c fs => exact h
theorem evA_len {T : Tab} {call : Nat → List PV → M PV} {S : BA.Env} : ∀ (as : IA) (D : Dr) (vs : List PV) (D' : Dr), as.plain = true → evA T call as S D = some (.ok vs, D') → vs.length = as.len
  | .nil, D, vs, D', _, h => by cases h; rfl
  | .cons a as, D, vs, D', hp, h => by
    rw [evA_cons] at h
    obtain ⟨o, D1, h1, h2⟩ := M.bind_ok h
    cases o with
    | exn c fs => cases h2
    | ok v =>
      obtain ⟨o, D2, h3, h4⟩ := M.bind_ok h2
      cases o with
      | exn c fs => cases h4
      | ok ws =>
        cases h4
        show ws.length + 1 = as.len + 1
        rw [evA_len as D1 ws _ hp h3]
  | .star _ _, _, _, _, hp, _ => by cases hp
theorem stepAL {as : IA} {F0 H0 F H : Hp} {D : Dr} {S : BA.Env} {σ : L2.St} {α : Type} {R : α → Dr → Prop} {k : List PV → M α} {Q : List V → Hp → Prop} (hp : as.plain = true) (r : RB L.g F0 H0 F H D) (s : SL L.g H0 F H σ S) (h : PostM L.g W F H R ((evA L.T (L.call n) as S >>= k) D))
    (q : ∀ F1 H1 x v D1, RB L.g F0 H0 F1 H1 D1 → RB L.g F H F1 H1 D1 → SL L.g H0 F1 H1 σ S → RepAll L.g F1 x v → v.length = as.len → PostM L.g W F1 H1 R (k v D1) → Q x H1) : tA L n W as σ H Q :=
  ⟨F0, H0, F, S, D, r, s, (h.bind.tell fun a D' e => evA_len as D a D' hp e).mono fun v D1 ⟨hl, hv⟩ F1 H1 x p hx => q F1 H1 x v D1 (r.trans p) p (s.grow p) hx hl (hv.shift p)⟩
theorem line1000 : (1000 : Nat) ≤ sizeLine := by rw [sizeLine_eq]; decide
theorem snd_tup {as : IA} (ias : SndA L as) : SndE L (.tup as) := fun P n sc X W e c m => by
  cases e with
  | Tuple es k pos =>
    rw [mE_tup] at m; simp only [Bool.and_eq_true, decide_eq_true_eq] at m
    obtain ⟨⟨m1, m2⟩, m3⟩ := m
    refine .of ((pe_tup ((ias P n sc X W true false es c m1).pa rfl)).imp fun σ H Q h => ?_) rfl
    obtain ⟨F0, H0, F, S, D, r, s, h⟩ := h
    rw [evE_tup] at h
    refine stepAL m2 r s h fun F1 H1 xs vs D1 r1 p1 s1 hx hl h1 => ?_
    have hz : vs.length ≤ sizeLine := by rw [hl]; exact Nat.le_trans m3 line1000
    exact ⟨by rw [hx.length]; exact hz, Fin.tupN (Fin.shift p1 h1) r1 hx hz⟩
  | _ => cases (show false = true from m)
theorem snd_tups {as : IA} (ias : SndA L as) : SndE L (.tups as) := fun P n sc X W e c m => by
  cases e with
  | Tuple es k pos =>
    rw [mE_tups] at m
    refine .of ((pe_tup ((ias P n sc X W true true es c m).pa rfl)).imp fun σ H Q h => ?_) rfl
    obtain ⟨F0, H0, F, S, D, r, s, h⟩ := h
    rw [evE_tups] at h
    refine stepA r s h fun F1 H1 xs vs D1 r1 p1 s1 hx h1 => ?_
    obtain ⟨v, ev, q⟩ := h1.lift
    split at ev
    · rename_i hz
      cases ev
      exact ⟨by rw [hx.length]; exact hz, Fin.tupN (Fin.shift p1 q) r1 hx hz⟩
    · cases ev
  | _ => cases (show false = true from m)
theorem snd_lst {as : IA} (ias : SndA L as) : SndE L (.lst as) := fun P n sc X W e c m => by
  cases e with
  | List es pos =>
    rw [mE_lst] at m; simp only [Bool.and_eq_true, decide_eq_true_eq] at m
    obtain ⟨⟨m1, m2⟩, m3⟩ := m
    refine .of ((pe_lst ((ias P n sc X W true false es c m1).pa rfl)).imp fun σ H Q h => ?_) rfl fun _ => (pe_lst ((ias P n sc X W true false es c m1).pa rfl)).imp fun σ H Q h => ?_
    · obtain ⟨F0, H0, F, S, D, r, s, h⟩ := h
      rw [evE_lst] at h
      refine stepAL m2 r s h fun F1 H1 xs vs D1 r1 p1 s1 hx hl h1 => ?_
      have hz : vs.length ≤ sizeLine := by rw [hl]; exact Nat.le_trans m3 line1000
      exact ⟨by rw [hx.length]; exact hz, FinL.laid (Fin.lst (Fin.shift p1 h1)) r1 hx hz⟩
    · obtain ⟨F0, H0, F, S, D, r, s, h⟩ := h
      rw [evE_lst] at h
      refine stepAL m2 r s h fun F1 H1 xs vs D1 r1 p1 s1 hx hl h1 => ?_
      have hz : vs.length ≤ sizeLine := by rw [hl]; exact Nat.le_trans m3 line1000
      obtain ⟨ds, ed, q⟩ := h1
      cases ed
      exact ⟨by rw [hx.length]; exact hz, FinL.laid (FinL.shift p1 q) r1 hx hz⟩
  | _ => cases (show false = true from m)

/-! ### items, slices -/
theorem plainIx {y : Expr} (h : nosliceB y = true) : PlainIx y := fun o i => by
  cases y with
  | Slice => cases (show false = true from h)
  | _ => rfl
theorem rep_val {g : GD} {F : Hp} {v : V} {d : PV} (kvs : List (Key × V)) (ds : List (PV × PV)) (k : Key) (r : RepKV g F kvs ds) : True := trivial
theorem snd_ix {a b : IE} (ia : SndE L a) (ib : SndE L b) : SndE L (.ix a b) := fun P n sc X W e c m => by
  cases e with
  | Subscript x y pos =>
    rw [mE_ix] at m; simp only [Bool.and_eq_true] at m
    obtain ⟨⟨m1, m2⟩, m3⟩ := m
    refine .of ((pe_ix ix_seq (ia P n sc X W x c m2).pb (ib P n sc X W y c m3).pb (plainIx m1)).imp fun σ H Q h => ?_) rfl
    obtain ⟨F0, H0, F, S, D, r, s, h⟩ := h
    rw [evE_ix] at h
    refine stepB r s h fun F1 H1 x va D1 r1 p1 s1 hx h1 => stepB r1 s1 h1 fun F2 H2 y vb D2 r2 p2 s2 hy h2 => ?_
    obtain ⟨v, ev, q⟩ := h2.lift
    rw [c.K]
    exact ix_ok r2 (hx.grow p2) hy ev (fun kvs z => by subst z; cases ev) (Fin.shift (p1.trans p2) q)
  | _ => cases (show false = true from m)
end
end BA
/-! BaSndE3 -/
set_option linter.all false
set_option maxRecDepth 100000
set_option maxHeartbeats 1000000
/-! BaSndE3: slices; built-in functions, methods; calls; fields; isinstance. -/
namespace BA
open PySem PySem.Spec PyProof.Rows L2 LamX
section
variable {L : LW} {P : MP} {n : Nat} {sc : Scope} {X : Cx} {W : XK} {e : Expr}
/-- one bound of a slice -/
def tP (L : LW) (n : Nat) (W : XK) (ie : IE) : TO := fun σ H Q => ∃ F0 H0 F S D, RB L.g F0 H0 F H D ∧ SL L.g H0 F H σ S ∧ PostM L.g W F H (fun v D' => ∀ F' H', RB L.g F H F' H' D' → Q v H')
  ((if ie.isNil = true then pure none else evE L.T (L.call n) ie S >>= fun v => M.lift ((intV v).map some)) D)
theorem stepP {ie : IE} {F0 H0 F H : Hp} {D : Dr} {S : BA.Env} {σ : L2.St} {α : Type} {R : α → Dr → Prop} {k : Option Int → M α} {Q : Option Int → Hp → Prop} (r : RB L.g F0 H0 F H D) (s : SL L.g H0 F H σ S)
    (h : PostM L.g W F H R (((if ie.isNil = true then pure none else evE L.T (L.call n) ie S >>= fun v => M.lift ((intV v).map some)) >>= k) D))
    (q : ∀ F1 H1 v D1, RB L.g F0 H0 F1 H1 D1 → RB L.g F H F1 H1 D1 → SL L.g H0 F1 H1 σ S → PostM L.g W F1 H1 R (k v D1) → Q v H1) : tP L n W ie σ H Q :=
  ⟨F0, H0, F, S, D, r, s, h.bind.mono fun v D1 hv F1 H1 p => q F1 H1 v D1 (r.trans p) p (s.grow p) (hv.shift p)⟩
theorem po_nil {ie : IE} (h : ie.isNil = true) : PO X none (tP L n W ie) := by
  refine ⟨fun pins s σ H Q I h' => ?_⟩
  obtain ⟨F0, H0, F, S, D, r, s', h2⟩ := h'
  rw [if_pos h] at h2
  exact po_none.run pins s σ H Q I (h2 F H r.refl)
theorem po_e {ie : IE} {x : Expr} (hp : PE X x (BA.tB L n W ie)) (h : ie.isNil = false) : PO X (some x) (tP L n W ie) := by
  refine ⟨fun pins s σ H Q I h' => ?_⟩
  obtain ⟨F0, H0, F, S, D, r, s', h2⟩ := h'
  rw [if_neg (by rw [h]; exact Bool.false_ne_true)] at h2
  refine (po_some hp).run pins s σ H Q I (stepB r s' h2 fun F1 H1 x v D1 r1 p1 s1 hx h1 => ?_)
  obtain ⟨o, eo, q⟩ := h1.lift
  cases v with
  | int i => cases eo; exact ⟨i, hx.int, q F1 H1 p1⟩
  | _ => cases eo
theorem slc_new {g : GD} {F0 H0 F H : Hp} {D : Dr} {Q : VK} {va : PV} {ds : List PV} {x : V} {lo hi : Option Int} (r : RB g F0 H0 F H D) (hx : BRep g F H x va) (e : slcV va lo hi = some (.lst ds)) (q : FinL g F H D Q ds) : rSlice g.K x lo hi H Q := by
  cases va with
  | lst a => cases e; exact slc_lst r hx q
  | tup a => cases e
  | str a => cases e
  | _ => cases e
theorem snd_slc {a lo hi : IE} (ia : SndE L a) (il : SndE L lo) (ih : SndE L hi) : SndE L (.slc a lo hi) := fun P n sc X W e c m => by
  cases e with
  | Subscript x y pos =>
    cases y with
    | Slice l h st p2 =>
      cases st with
      | none =>
        rw [mE_slc] at m; simp only [Bool.and_eq_true] at m
        obtain ⟨⟨m1, m2⟩, m3⟩ := m
        have gl : PO X l (tP L n W lo) := by
          cases l with
          | none => exact po_nil m2
          | some l => simp only [Bool.and_eq_true, Bool.not_eq_true'] at m2; exact po_e (il P n sc X W l c m2.2).pb m2.1
        have gh : PO X h (tP L n W hi) := by
          cases h with
          | none => exact po_nil m3
          | some h => simp only [Bool.and_eq_true, Bool.not_eq_true'] at m3; exact po_e (ih P n sc X W h c m3.2).pb m3.1
        refine .of ((pe_slice sl_any (ia P n sc X W x c m1).pb gl gh).imp fun σ H Q h => ?_) rfl fun _ => (pe_slice sl_any (ia P n sc X W x c m1).pb gl gh).imp fun σ H Q h => ?_
        · obtain ⟨F0, H0, F, S, D, r, s, h⟩ := h
          rw [evE_slc] at h
          refine stepB r s h fun F1 H1 x va D1 r1 p1 s1 hx h1 => stepP r1 s1 h1 fun F2 H2 lv D2 r2 p2 s2 h2 => stepP r2 s2 h2 fun F3 H3 hv D3 r3 p3 s3 h3 => ?_
          obtain ⟨v, ev, q⟩ := h3.lift
          rw [c.K]
          exact slc_ok r3 (hx.grow (p2.trans p3)) ev (Fin.shift ((p1.trans p2).trans p3) q)
        · obtain ⟨F0, H0, F, S, D, r, s, h⟩ := h
          rw [evE_slc] at h
          refine stepB r s h fun F1 H1 x va D1 r1 p1 s1 hx h1 => stepP r1 s1 h1 fun F2 H2 lv D2 r2 p2 s2 h2 => stepP r2 s2 h2 fun F3 H3 hv D3 r3 p3 s3 h3 => ?_
          obtain ⟨v, ev, ds, ed, q⟩ := h3.lift
          subst ed
          rw [c.K]
          exact slc_new r3 (hx.grow (p2.trans p3)) ev (FinL.shift ((p1.trans p2).trans p3) q)
      | some _ => cases (show false = true from m)
    | _ => cases (show false = true from m)
  | _ => cases (show false = true from m)
theorem RepAll.rev {g : GD} {F : Hp} : ∀ {vs : List V} {ds : List PV}, RepAll g F vs ds → RepAll g F vs.reverse ds.reverse
  | _, _, .nil => .nil
  | _, _, .cons h t => by rw [List.reverse_cons, List.reverse_cons]; exact (RepAll.rev t).append (.cons h .nil)
theorem snd_rev {a : IE} (ia : SndE L a) : SndE L (.rev a) := fun P n sc X W e c m => by
  have go : ∀ (x : Expr) (k : Nat) (p1 p2 p3 pos : Pos), mE a P sc x = true → GoodE L n W X (.rev a) (.Subscript x (.Slice none none (some (.UnaryOp .USub (.Constant (.int 1) k p1) p2)) p3) pos) := fun x k p1 p2 p3 pos m => by
    refine .of ((pe_revL (ia P n sc X W x c m).pb).imp fun σ H Q h => ?_) rfl fun _ => (pe_revL (ia P n sc X W x c m).pb).imp fun σ H Q h => ?_
    · obtain ⟨F0, H0, F, S, D, r, s, h⟩ := h
      rw [evE_rev] at h
      refine stepB r s h fun F1 H1 x va D1 r1 p1 s1 hx h1 => ?_
      obtain ⟨v, ev, q⟩ := h1.lift
      cases va with
      | lst ds =>
        cases ev
        obtain ⟨l, xs, rfl, h1, ra, z⟩ := hx.lst r1.ext
        exact ⟨l, xs, rfl, .inl h1, FinL.laid (Fin.lst (Fin.shift p1 q)) r1 ra.rev (by rw [List.length_reverse]; exact z)⟩
      | _ => cases ev
    · obtain ⟨F0, H0, F, S, D, r, s, h⟩ := h
      rw [evE_rev] at h
      refine stepB r s h fun F1 H1 x va D1 r1 p1 s1 hx h1 => ?_
      obtain ⟨v, ev, es, ed, q⟩ := h1.lift
      cases va with
      | lst ds =>
        cases ev
        cases ed
        obtain ⟨l, xs, rfl, h1, ra, z⟩ := hx.lst r1.ext
        exact ⟨l, xs, rfl, .inl h1, FinL.laid (FinL.shift p1 q) r1 ra.rev (by rw [List.length_reverse]; exact z)⟩
      | _ => cases ev
  rw [mE_rev] at m
  split at m
  · simp only [Bool.and_eq_true, decide_eq_true_eq] at m
    obtain ⟨rfl, m⟩ := m
    exact go _ _ _ _ _ _ m
  · cases m

/-! ### built-in functions -/
theorem nostar_any : ∀ {as : IA} {P : MP} {strong : Bool} {sc : Scope} {es : List Expr} {env : PySem.Env} {pos : Pos}, mA as P strong false sc es = true → (backTo pos (starEach es env)).any (·.1) = false
  | .nil, P, strong, sc, es, env, pos, m => by
    cases es with
    | nil => rfl
    | cons => cases (show false = true from m)
  | .cons a as, P, strong, sc, es, env, pos, m => by
    cases es with
    | nil => cases (show false = true from m)
    | cons x xs =>
      rw [mA_cons] at m; simp only [Bool.and_eq_true] at m
      rw [star_cons m.1.1.1]
      show (false || (backTo pos (starEach xs env)).any (·.1)) = false
      rw [nostar_any m.2]
      rfl
  | .star a as, P, strong, sc, es, env, pos, m => by
    cases es with
    | nil => cases (show false = true from m)
    | cons x xs =>
      cases x with
      | Starred x pos => rw [mA_star] at m; simp at m
      | _ => cases (show false = true from m)
theorem nostar_head {as : IA} {P : MP} {strong : Bool} {sc : Scope} {x : Expr} {es : List Expr} (m : mA as P strong false sc (x :: es) = true) (env : PySem.Env) : starEach (x :: es) env = (false, eval x env) :: starEach es env := by
  cases as with
  | nil => cases (show false = true from m)
  | cons a as =>
    rw [mA_cons] at m; simp only [Bool.and_eq_true] at m
    exact star_cons m.1.1.1 _ _
  | star a as =>
    cases x with
    | Starred x pos => rw [mA_star] at m; simp at m
    | _ => cases (show false = true from m)
theorem nostar_tail {as : IA} {P : MP} {strong : Bool} {sc : Scope} {x : Expr} {es : List Expr} (m : mA as P strong false sc (x :: es) = true) (env : PySem.Env) (pos : Pos) : (backTo pos (starEach es env)).any (·.1) = false := by
  have h := nostar_any (env := env) (pos := pos) m
  rw [nostar_head m] at h
  have h' : (false || (backTo pos (starEach es env)).any (·.1)) = false := h
  simpa using h'
theorem prim_pe {p : Prim} {x : Str} {e1 : Expr} {es : List Expr} {q pos : Pos} {t : TA} (c : CtxB L P n sc X W) (hx : x = primN p) (hg : glB sc x = true) (ha : PA X (e1 :: es) t) (he : starEach (e1 :: es) X.env = (false, eval e1 X.env) :: starEach es X.env) (hpl : (backTo pos (starEach es X.env)).any (·.1) = false) :
    PE X (.Call (.Name x q) (e1 :: es) [] pos) (tCB (rPrim X.K p) t) := by
  subst hx
  have hm : X.mg (primN p) = none := c.fre (by cases p <;> decide)
  have hc := call_prim c.calm p
  cases p <;> first
    | exact pe_callB hc (c.gl hg) hm rfl ha (by decide) (by decide) he hpl
    | exact pe_callTy hc (c.gl hg) hm rfl ha (by decide) (by decide) he hpl
theorem primV_list {vs ds : List PV} (e : primV .list vs = some (.lst ds)) : vs = [.lst ds] ∨ vs = [.tup ds] := by
  match vs, e with
  | [], e => cases e
  | [v], e =>
    cases v with
    | lst xs => cases e; exact .inl rfl
    | tup xs => cases e; exact .inr rfl
    | _ => cases e
  | v :: _ :: _, e => cases v <;> cases e
theorem primV_sorted {vs ds : List PV} (e : primV .sorted vs = some (.lst ds)) : ∃ a ns, vs = [.lst a] ∧ allInt a = some ns ∧ ds = (sortI ns).map .int := by
  match vs, e with
  | [], e => cases e
  | [v], e =>
    cases v with
    | lst xs =>
      obtain ⟨ns, e1, e2⟩ := Option.map_eq_some_iff.mp (show (allInt xs).map (fun ns => PV.lst ((sortI ns).map .int)) = some (.lst ds) from e)
      cases e2
      exact ⟨xs, ns, rfl, e1, rfl⟩
    | _ => cases e
  | v :: _ :: _, e => cases v <;> cases e
theorem prim_new {g : GD} {F0 H0 F H : Hp} {D : Dr} {Q : VK} {p : Prim} {vs : List PV} {ds : List PV} {xs : List V} (hp : IE.freshB (.prm p .nil) = true) (r : RB g F0 H0 F H D) (hx : BAll g F H xs vs) (e : primV p vs = some (.lst ds)) (q : FinL g F H D Q ds) : rPrim g.K p xs H Q := by
  have one : ∀ {w : PV}, BAll g F H xs [w] → ∃ x, xs = [x] ∧ BRep g F H x w := fun h => by
    cases h with
    | cons h t => cases t; exact ⟨_, rfl, h⟩
  cases p with
  | list =>
    rcases primV_list e with rfl | rfl
    · obtain ⟨x, rfl, h⟩ := one hx
      exact prim_list r (.inl h) q
    · obtain ⟨x, rfl, h⟩ := one hx
      exact prim_list r (.inr h) q
  | sorted =>
    obtain ⟨a, ns, rfl, e1, rfl⟩ := primV_sorted e
    obtain ⟨x, rfl, h⟩ := one hx
    exact prim_sorted r h e1 q
  | _ => cases hp
theorem snd_prm (p : Prim) {as : IA} (ias : SndA L as) : SndE L (.prm p as) := fun P n sc X W e c m => by
  cases e with
  | Call f es kw pos =>
    cases f with
    | Name x q =>
      cases kw with
      | nil =>
        rw [mE_prm] at m; simp only [Bool.and_eq_true, decide_eq_true_eq, Bool.not_eq_true'] at m
        obtain ⟨⟨⟨m1, m2⟩, m3⟩, m4⟩ := m
        cases es with
        | nil => cases m3
        | cons e1 es =>
          have ha := (ias P n sc X W false false _ c m4).pb rfl
          have hp := prim_pe (pos := pos) (q := q) c m1 m2 ha (nostar_head m4 _) (nostar_tail m4 _ _)
          refine .of (hp.imp fun σ H Q h => ?_) rfl fun hf => hp.imp fun σ H Q h => ?_
          · obtain ⟨F0, H0, F, S, D, r, s, h⟩ := h
            rw [evE_prm] at h
            refine stepAB r s h fun F1 H1 xs vs D1 r1 p1 s1 hx h1 => ?_
            obtain ⟨v, ev, q⟩ := h1.lift
            rw [c.K]
            exact prim_ok p r1 hx ev (Fin.shift p1 q)
          · obtain ⟨F0, H0, F, S, D, r, s, h⟩ := h
            rw [evE_prm] at h
            refine stepAB r s h fun F1 H1 xs vs D1 r1 p1 s1 hx h1 => ?_
            obtain ⟨v, ev, ds, ed, q⟩ := h1.lift
            subst ed
            rw [c.K]
            exact prim_new (by cases p <;> first | rfl | cases hf) r1 hx ev (FinL.shift p1 q)
      | cons => cases (show false = true from m)
    | _ => cases (show false = true from m)
  | _ => cases (show false = true from m)

/-! ### methods of texts, list(range(..)) -/
theorem nocall_base {o : Expr} (h : nocallB o = true) (a : Str) (env : PySem.Env) : attributeBase o a env (eval o env) = eval o env := by
  cases o with
  | Call => cases (show false = true from h)
  | _ => rfl
theorem slot_mth : ∀ m, Slot "str" (mthN m) (mthI m)
  | .split => F.slot_str_split
  | .join => F.slot_str_join
  | .startswith => F.slot_str_startswith
theorem ty_mth : ∀ m, typeOf (.builtin (mthI m)) = pure (.type "method_descriptor")
  | .split => F.type_str_split
  | .join => F.type_str_join
  | .startswith => F.type_str_startswith
theorem mem_sum {y : Str} : ∀ {ys : List Str}, y ∈ ys → y.length ≤ (ys.map (·.length)).sum
  | z :: zs, h => by
    rw [List.map_cons, List.sum_cons]
    rcases List.mem_cons.mp h with rfl | h
    · omega
    · have := mem_sum h; omega
theorem split_good {a b : Str} (hz : a.length + 2 ≤ sizeLine) : (∀ z ∈ Txt.split a b, GoodS z) ∧ (Txt.split a b).length ≤ sizeLine := by
  refine ⟨fun z hm => ?_, Nat.le_trans (PyProof.Rows.split_le a b) hz⟩
  unfold Txt.split at hm
  split at hm
  · rw [List.mem_singleton] at hm; subst hm; show z.length ≤ sizeLine; omega
  · split at hm
    · rw [List.mem_singleton] at hm; subst hm; show z.length ≤ sizeLine; omega
    · have h1 := mem_sum hm
      have h2 : (Builtin.Str.glued b (Builtin.Str.partsBetween a (Builtin.Str.occurrences a b 0 a.length (a.length + 1)) b.length)).length = a.length := by rw [StrLaws.glued_between_self]
      rw [size_glued] at h2
      show z.length ≤ sizeLine
      omega
theorem join_good {a : Str} {ys : List Str} (h : (ys.map (·.length)).sum + ys.length * a.length ≤ 16777216) : GoodS (Txt.join a ys) := by
  show (Builtin.Str.glued a ys).length ≤ sizeLine
  rw [StrLaws.glued_eq_join, sizeLine_eq]
  exact Nat.le_trans (StrLaws.join_length_le a ys) h
theorem mth_ok {g : GD} {F0 H0 F H : Hp} {D : Dr} {Q : VK} (m : Mth) {a : Str} {y : V} {vb v : PV} (r : RB g F0 H0 F H D) (hy : BRep g F H y vb) (e : mthV m (.str a) [vb] = some v) (q : Fin g F H D Q v) : rMth g.K m (.str a) [y] H Q := by
  cases m with
  | split =>
    cases vb with
    | str b =>
      simp only [mthV] at e
      split at e
      · rename_i z
        cases e
        refine ⟨a, b, rfl, by rw [hy.str.1], by simpa using z.1, z.2, ?_⟩
        obtain ⟨hg, hz⟩ := split_good z.2
        exact FinL.laid q.lst r (repAll_strs hg) (by rw [List.length_map]; exact hz)
      · cases e
    | _ => cases e
  | join =>
    cases vb with
    | lst xs =>
      simp only [mthV] at e
      obtain ⟨ys, e1, e2⟩ := Option.bind_eq_some_iff.mp e
      split at e2
      · rename_i z
        cases e2
        obtain ⟨l, vs, rfl, h1, ra, _⟩ := hy.lst r.ext
        obtain ⟨rfl, hg⟩ := ra.of_strs e1
        exact ⟨a, l, ys, rfl, rfl, .inl (.inl h1), z, q.now r (.str _ (join_good z))⟩
      · cases e2
    | _ => cases e
  | startswith =>
    cases vb with
    | str b =>
      cases e
      exact ⟨a, b, rfl, by rw [hy.str.1], q.now r (.bl _)⟩
    | _ => cases e
theorem snd_mth (m' : Mth) {a b : IE} (ia : SndE L a) (ib : SndE L b) : SndE L (.mth m' a b) := fun P n sc X W e c m => by
  cases e with
  | Call f es kw pos =>
    cases f with
    | Attribute o x apos =>
      match es, kw, m with
      | [y], [], m =>
        rw [mE_mth] at m; simp only [Bool.and_eq_true, decide_eq_true_eq] at m
        obtain ⟨⟨⟨⟨⟨rfl, m2⟩, m3⟩, m4⟩, m5⟩, m6⟩ := m
        refine .of ((pe_m1 (slot_mth m') (ty_mth m') (mt_any m') (ia P n sc X W o c m4).pb (ib P n sc X W y c m6).pb (star_cons m5 _ _) (nocall_base m2 _ _) (by rw [m3]; exact beq_self_eq_true _)).imp fun σ H Q h => ?_) rfl
        obtain ⟨F0, H0, F, S, D, r, s, h⟩ := h
        rw [evE_mth] at h
        refine stepB r s h fun F1 H1 x va D1 r1 p1 s1 hx h1 => ?_
        obtain ⟨z, ez, h2⟩ := h1.bind.lift
        cases va with
        | str z' =>
          cases ez
          refine ⟨⟨_, hx.str.1⟩, stepB r1 s1 h2 fun F2 H2 y vb D2 r2 p2 s2 hy h3 => ?_⟩
          obtain ⟨v, ev, q⟩ := h3.lift
          rw [c.K, hx.str.1]
          exact mth_ok m' r2 hy ev (Fin.shift (p1.trans p2) q)
        | _ => cases ez
      | [], _, m => cases (show false = true from m)
      | _ :: _ :: _, _, m => cases (show false = true from m)
      | [_], _ :: _, m => cases (show false = true from m)
    | _ => cases (show false = true from m)
  | _ => cases (show false = true from m)
theorem rgV_rep {g : GD} {F : Hp} (b : Int) (n : Nat) : RepAll g F ((List.range n).map fun i => V.int (b + (i : Nat))) (rangeV b 1 n) := by
  induction n generalizing b with
  | zero => exact .nil
  | succ n ih =>
    rw [List.range_succ_eq_map, List.map_cons, List.map_map]
    refine .cons ?_ ?_
    · have : b + ((0 : Nat) : Int) = b := by simp
      rw [this]; exact .int _
    · have := ih (b + 1)
      refine cast ?_ this
      congr 1
      refine List.map_congr_left fun i _ => ?_
      show V.int (b + 1 + (i : Nat)) = V.int (b + ((i + 1 : Nat) : Int))
      congr 1
      omega
theorem rangeV_len (lo c : Int) : ∀ n, (rangeV lo c n).length = n
  | 0 => rfl
  | n + 1 => congrArg Nat.succ (rangeV_len (lo + c) c n)
theorem snd_lrng {a : IE} (ia : SndE L a) : SndE L (.lrng a) := fun P n sc X W e c m => by
  rw [mE_lrng] at m
  split at m
  · rename_i x p1 y p2 z p3 p4
    simp only [Bool.and_eq_true, decide_eq_true_eq] at m
    obtain ⟨⟨⟨⟨⟨rfl, rfl⟩, m3⟩, m4⟩, m5⟩, m6⟩ := m
    have hp : ∀ t, (∀ σ H Q, t σ H Q → tLstRg (tRg1 (BA.tB L n W a)) σ H Q) → PE X (.Call (.Name "list" p1) [.Call (.Name "range" p2) [z] [] p3] [] p4) t := fun t i => (pe_listRg c.calm (c.gl m3) (c.fre (by decide)) (prg_1 (c.gl m4) (c.fre (by decide)) (ia P n sc X W z c m6).pb (star_cons m5 _ _))).imp i
    have key : ∀ {Q : VK} {F0 H0 F H : Hp} {D : Dr} {i : Int}, RB L.g F0 H0 F H D → small i = true → FinL L.g F H D Q (rangeV 0 1 i.toNat) → RgOk 0 i ∧ ∀ q, H q = none → Q (.ref q) (upd H q (.lst (rgV 0 i))) := fun {Q F0 H0 F H D i} r hs q => by
      simp only [small, Bool.and_eq_true, decide_eq_true_eq] at hs
      refine ⟨⟨by omega, by omega, by omega, by omega, by omega⟩, ?_⟩
      have := rgV_rep (g := L.g) (F := F) 0 (i - 0).toNat
      refine FinL.laid q r ?_ (by rw [rangeV_len, sizeLine_eq]; omega)
      unfold rgV
      rw [show (i - 0).toNat = i.toNat by rw [Int.sub_zero]] at this ⊢
      exact this
    refine .of (hp _ fun σ H Q h => ?_) rfl fun _ => hp _ fun σ H Q h => ?_
    · obtain ⟨F0, H0, F, S, D, r, s, h⟩ := h
      rw [evE_lrng] at h
      refine stepB r s h fun F1 H1 x va D1 r1 p1 s1 hx h1 => ?_
      obtain ⟨v, ev, q⟩ := h1.lift
      cases va with
      | int i =>
        have ev : (if small i = true then some (PV.lst (rangeV 0 1 i.toNat)) else none) = some v := ev
        split at ev
        · rename_i hs
          cases ev
          exact ⟨i, hx.int, key r1 hs (Fin.lst (Fin.shift p1 q))⟩
        · cases ev
      | _ => cases ev
    · obtain ⟨F0, H0, F, S, D, r, s, h⟩ := h
      rw [evE_lrng] at h
      refine stepB r s h fun F1 H1 x va D1 r1 p1 s1 hx h1 => ?_
      obtain ⟨v, ev, ds, ed, q⟩ := h1.lift
      subst ed
      cases va with
      | int i =>
        have ev : (if small i = true then some (PV.lst (rangeV 0 1 i.toNat)) else none) = some (PV.lst ds) := ev
        split at ev
        · rename_i hs
          cases ev
          exact ⟨i, hx.int, key r1 hs (FinL.shift p1 q)⟩
        · cases ev
      | _ => cases ev
  · cases m
end
end BA
/-! BaSndE4 -/
set_option linter.all false
set_option maxRecDepth 100000
set_option maxHeartbeats 1000000
/-! BaSndE4: calls of defs; fields; isinstance. -/
namespace BA
open PySem PySem.Spec PyProof.Rows L2 LamX
section
variable {L : LW} {P : MP} {n : Nat} {sc : Scope} {X : Cx} {W : XK} {e : Expr}
theorem CtxB.fn (c : CtxB L P n sc X W) {f : Nat} {q : Str × List Str} (h : L.nm.fns[f]? = some q) : FnOk X.prog X.w X.K X.mg X.base (L2.CX X.prog X.w) (3 * n) (L.fA f) (L.fD f) q.2 (spI L n f q.2.length) := by
  rw [c.prog, c.w, c.K, c.mg, c.base]
  exact c.fns f q h
theorem RepAll.len {g : GD} {F : Hp} {vs : List V} {ds : List PV} (h : RepAll g F vs ds) : vs.length = ds.length := h.length
/-- the promise, from the arguments -/
theorem sp_of (c : CtxB L P n sc X W) {f : Nat} {q : Str × List Str} (hf : L.nm.fns[f]? = some q) {F0 H0 F H F' H' : Hp} {D D' : Dr} {Q : VK} {vs : List V} {pvs : List PV} (p : RB L.g F0 H0 F H D) (r : RB L.g F H F' H' D') (ra : RepAll L.g F' vs pvs)
    (h : PostM L.g W F' H' (fun v D' => Fin L.g F H D' Q v) (L.call n f pvs D')) : spI L n f q.2.length vs H' Q W := by
  refine ⟨?_, F0, H0, F', D', pvs, p.trans r, ra, h.mono fun v D2 q => Fin.shift r q⟩
  rw [ra.length]
  cases e : L.call n f pvs D' with
  | none => rw [e] at h; exact h.elim
  | some o =>
    obtain ⟨fe, h1, h2⟩ := callN_len e
    rw [h2]
    exact c.law.arity f q fe hf h1
theorem snd_cal (f : Nat) {as : IA} (ias : SndA L as) : SndE L (.cal f as) := fun P n sc X W e c m => by
  cases e with
  | Call fn es kw pos =>
    cases fn with
    | Name x q =>
      cases kw with
      | nil =>
        rw [mE_cal] at m; simp only [Bool.and_eq_true, Bool.not_eq_true', okN] at m
        obtain ⟨⟨⟨⟨m1, m2⟩, ⟨m3, m4⟩⟩, m5⟩, m6⟩ := m
        rw [c.nm] at m1
        cases hf : L.nm.fns[f]? with
        | none => rw [hf] at m1; cases m1
        | some fq =>
          rw [hf] at m1
          simp only [Bool.and_eq_true, decide_eq_true_eq] at m1
          obtain ⟨rfl, m1⟩ := m1
          cases es with
          | nil => cases m5
          | cons e1 es =>
            obtain ⟨k1, k2, k3⟩ := c.law.fns f fq hf
            refine .of ((pe_call (c.fn hf) c.room (c.gl m2) (by rw [c.mg]; exact k1) (by rw [c.K]; exact k2) (by rw [c.K]; exact k3) .nil c.passes ((ias P n sc X W true false _ c m6).pa rfl) m3 (nostar_head m6 _) (nostar_tail m6 _ _)).imp fun σ H Q h => ?_) rfl
            obtain ⟨F0, H0, F, S, D, r, s, h⟩ := h
            rw [evE_cal] at h
            refine stepA r s h fun F1 H1 xs vs D1 r1 p1 s1 hx h1 => ?_
            rw [List.append_nil]
            exact sp_of c hf r p1 hx h1
      | cons => cases (show false = true from m)
    | _ => cases (show false = true from m)
  | _ => cases (show false = true from m)
/-! with keywords -/
def SndK (L : LW) (as : IA) : Prop := ∀ (P : MP) (n : Nat) (sc : Scope) (X : Cx) (W : XK) (ks : List Keyword), CtxB L P n sc X W → mK as P sc ks = true → PK X ks (tA L n W as)
theorem sndk_nil : SndK L .nil := fun P n sc X W ks c m => by
  cases ks with
  | nil =>
    refine pk_nil.imp fun σ H Q h => ?_
    obtain ⟨F0, H0, F, S, D, r, s, h⟩ := h
    exact h F H [] r.refl .nil
  | cons => cases (show false = true from m)
theorem sndk_cons {a : IE} {as : IA} (ia : SndE L a) (ias : SndK L as) : SndK L (.cons a as) := fun P n sc X W ks c m => by
  cases ks with
  | nil => cases (show false = true from m)
  | cons k ks =>
    obtain ⟨nm, x, pos⟩ := k
    rw [mK_cons] at m; simp only [Bool.and_eq_true, Bool.not_eq_true'] at m
    obtain ⟨⟨⟨m1, m2⟩, m3⟩, m4⟩ := m
    refine (pk_cons ((ia P n sc X W x c m2).pe m3) (ias P n sc X W ks c m4)).imp fun σ H Q h => ?_
    obtain ⟨F0, H0, F, S, D, r, s, h⟩ := h
    rw [evA_cons] at h
    refine stepE r s h fun F1 H1 x v D1 r1 p1 s1 hx h1 => stepA r1 s1 h1 fun F2 H2 xs vs D2 r2 p2 s2 hxs h2 => ?_
    exact h2 F2 H2 (x :: xs) (p1.trans p2) (.cons (hx.mono p2.f0) hxs)
theorem sndk_star {a : IE} {as : IA} : SndK L (.star a as) := fun P n sc X W ks c m => by cases (show false = true from m)
theorem kw_some : ∀ {as : IA} {P : MP} {sc : Scope} {ks : List Keyword} {env : PySem.Env} {pos : Pos}, mK as P sc ks = true → (backToKw pos (keywordEach ks env)).all (·.1.isSome) = true ∧ (backToKw pos (keywordEach ks env)).any (·.1.isNone) = false
  | .nil, P, sc, ks, env, pos, m => by
    cases ks with
    | nil => exact ⟨rfl, rfl⟩
    | cons => cases (show false = true from m)
  | .cons a as, P, sc, ks, env, pos, m => by
    cases ks with
    | nil => cases (show false = true from m)
    | cons k ks =>
      obtain ⟨nm, x, p⟩ := k
      rw [mK_cons] at m; simp only [Bool.and_eq_true] at m
      obtain ⟨h1, h2⟩ := kw_some (env := env) (pos := pos) m.2
      have e1 : (backToKw pos (keywordEach (⟨nm, x, p⟩ :: ks) env)).all (·.1.isSome) = (nm.isSome && (backToKw pos (keywordEach ks env)).all (·.1.isSome)) := rfl
      have e2 : (backToKw pos (keywordEach (⟨nm, x, p⟩ :: ks) env)).any (·.1.isNone) = (nm.isNone || (backToKw pos (keywordEach ks env)).any (·.1.isNone)) := rfl
      rw [e1, e2, h1, h2]
      have := m.1.1.1
      cases nm with
      | none => cases this
      | some => exact ⟨rfl, rfl⟩
  | .star a as, P, sc, ks, env, pos, m => by cases (show false = true from m)
theorem kw_names (pos : Pos) (env : PySem.Env) : ∀ (ks : List Keyword) (ns : List Str), ks.map (·.arg) = ns.map some → (backToKw pos (keywordEach ks env)).filterMap (·.1) = ns
  | [], [], _ => rfl
  | [], _ :: _, h => by cases h
  | _ :: _, [], h => by cases h
  | ⟨nm, x, p⟩ :: ks, a :: ns, h => by
    rw [List.map_cons, List.map_cons] at h
    injection h with h1 h2
    have h1 : nm = some a := h1
    subst h1
    have e : (backToKw pos (keywordEach (⟨some a, x, p⟩ :: ks) env)).filterMap (·.1) = a :: (backToKw pos (keywordEach ks env)).filterMap (·.1) := rfl
    rw [e, kw_names pos env ks ns h2]
/-- f(k = v, ..), no positional value -/
theorem pe_callN0 {CX : CXT} {k : Nat} {f : Addr} {fd : FuncData} {ps ks : List Str} {sp : Sp} {E : XK} {x : Str} {p pos : Pos} {kws : List Keyword} {tk : TA} {g : List Value → List Value → List Value} {gV : List V → List V → List V}
    (F : FnOk X.prog X.w X.K X.mg X.base CX k f fd ps sp) (hr : Room k X.A) (hg : Gl X x) (hm : X.mg x = some (.ref f)) (hk : PySem.W.keepIn X.K (.ref f) = true) (hb : KBn X.K fd ps 0 ks g gV) (hx : Passes CX X E)
    (hkw : PK X kws tk) (hall : (backToKw pos (keywordEach kws X.env)).all (·.1.isSome) = true) (hks : (backToKw pos (keywordEach kws X.env)).filterMap (·.1) = ks)
    (hdb : (x == ("__debug__" : Str)) = false)
    (hpl : ((backTo pos (starEach [] X.env)).any (·.1) || (backToKw pos (keywordEach kws X.env)).any (·.1.isNone)) = false) :
    PE X (.Call (.Name x p) [] kws pos) (fun σ H Q => tk σ H fun zs H2 => zs.length = ks.length ∧ sp (gV [] zs) H2 Q E) := by
  refine ⟨fun pins s σ H Q I h => ?_⟩
  refine wpAny_Call_Name_kw (ld_glob I hg hm ?_ hdb)
  refine PySem.W.callWith_KW0 (h₀ := X.base) I.ok.mod.kin hk hall ?_ hpl
  refine thn (hkw.run pos pins s σ H _ I h) fun ws s2 ⟨zs, H2, I2, rz, l2, q2⟩ => ⟨I2.kIn, ?_⟩
  rw [hks]
  exact run_fnN (us := []) (vs := []) F hr hb hx I2 .nil rz rfl l2 q2
theorem evA_lenK {T : Tab} {call : Nat → List PV → M PV} {S : BA.Env} {as : IA} {P : MP} {sc : Scope} : ∀ {ks : List Keyword}, mK as P sc ks = true → as.plain = true ∧ as.len = ks.length := by
  intro ks m
  induction ks generalizing as with
  | nil =>
    cases as with
    | nil => exact ⟨rfl, rfl⟩
    | cons => cases (show false = true from m)
    | star => cases (show false = true from m)
  | cons k ks ih =>
    cases as with
    | nil => cases (show false = true from m)
    | cons a as =>
      obtain ⟨nm, x, pos⟩ := k
      rw [mK_cons] at m; simp only [Bool.and_eq_true] at m
      obtain ⟨h1, h2⟩ := ih m.2
      exact ⟨h1, congrArg Nat.succ h2⟩
    | star => cases (show false = true from m)
theorem evA_lenA {as : IA} {P : MP} {sc : Scope} {strong : Bool} : ∀ {es : List Expr}, mA as P strong false sc es = true → as.plain = true ∧ as.len = es.length := by
  intro es m
  induction es generalizing as with
  | nil =>
    cases as with
    | nil => exact ⟨rfl, rfl⟩
    | cons => cases (show false = true from m)
    | star => cases (show false = true from m)
  | cons x es ih =>
    cases as with
    | nil => cases (show false = true from m)
    | cons a as =>
      rw [mA_cons] at m; simp only [Bool.and_eq_true] at m
      obtain ⟨h1, h2⟩ := ih m.2
      exact ⟨h1, congrArg Nat.succ h2⟩
    | star a as =>
      cases x with
      | Starred x pos => rw [mA_star] at m; simp at m
      | _ => cases (show false = true from m)
theorem snd_calk (f : Nat) {as ks : IA} (ias : SndA L as) (iks : SndK L ks) : SndE L (.calk f as ks) := fun P n sc X W e c m => by
  cases e with
  | Call fn es kw pos =>
    cases fn with
    | Name x q =>
      rw [mE_calk] at m; simp only [Bool.and_eq_true, Bool.not_eq_true', okN] at m
      obtain ⟨⟨⟨⟨m1, m2⟩, ⟨m3, m4⟩⟩, m5⟩, m6⟩ := m
      rw [c.nm] at m1
      cases hf : L.nm.fns[f]? with
      | none => rw [hf] at m1; cases m1
      | some fq =>
        rw [hf] at m1
        simp only [Bool.and_eq_true, decide_eq_true_eq] at m1
        obtain ⟨⟨rfl, m1⟩, ml⟩ := m1
        obtain ⟨k1, k2, k3⟩ := c.law.fns f fq hf
        have hK := c.law.kbn f fq es.length hf (by omega)
        obtain ⟨a1, a2⟩ := evA_lenA m5
        obtain ⟨b1, b2⟩ := evA_lenK (T := L.T) (call := L.call n) (S := []) m6
        have hl : (fq.2.drop es.length).length = kw.length := by rw [List.length_drop]; omega
        obtain ⟨w1, w2⟩ := kw_some (env := X.env) (pos := pos) m6
        have w3 := kw_names pos X.env kw _ m1
        cases es with
        | nil =>
          refine .of ((pe_callN0 (c.fn hf) c.room (c.gl m2) (by rw [c.mg]; exact k1) (by rw [c.K]; exact k2) (by rw [c.K]; exact hK) c.passes (iks P n sc X W kw c m6) w1 w3 m3 (by rw [w2]; rfl)).imp fun σ H Q h => ?_) rfl
          obtain ⟨F0, H0, F, S, D, r, s, h⟩ := h
          rw [evE_calk] at h
          cases as with
          | nil =>
            have h : PostM L.g W F H (fun v D' => Fin L.g F H D' Q v) ((evA L.T (L.call n) ks S >>= fun ws => L.call n f ([] ++ ws)) D) := h
            refine stepAL b1 r s h fun F1 H1 xs vs D1 r1 p1 s1 hx hvl h1 => ?_
            exact ⟨by rw [hx.length, hvl, b2, hl], sp_of c hf r p1 hx h1⟩
          | cons => cases a2
          | star => cases a1
        | cons e1 es =>
          refine .of ((pe_callN (c.fn hf) c.room (c.gl m2) (by rw [c.mg]; exact k1) (by rw [c.K]; exact k2) (by rw [c.K]; exact hK) c.passes ((ias P n sc X W true false _ c m5).pa rfl) (iks P n sc X W kw c m6) w1 w3 m3 (nostar_head m5 _) (by rw [w2, nostar_any m5]; rfl)).imp fun σ H Q h => ?_) rfl
          obtain ⟨F0, H0, F, S, D, r, s, h⟩ := h
          rw [evE_calk] at h
          refine stepAL a1 r s h fun F1 H1 xs vs D1 r1 p1 s1 hx hvl h1 => stepAL b1 r1 s1 h1 fun F2 H2 ys ws D2 r2 p2 s2 hy hwl h2 => ?_
          exact ⟨by rw [hx.length, hvl, a2], by rw [hy.length, hwl, b2, hl], sp_of c hf r (p1.trans p2) ((hx.mono p2.f0).append hy) h2⟩
    | _ => cases (show false = true from m)
  | _ => cases (show false = true from m)

/-! ### fields -/
theorem lookup_names {g : GD} {F : Hp} {nms : List Str} (nd : nms.Nodup) {f : Nat} {x : Str} (hx : nms[f]? = some x) : ∀ {fs : List Nat} {vs : List V} {ds : List PV} {d : PV}, (∀ k ∈ fs, k < nms.length) → RepAll g F vs ds → (fs.zip ds).lookup f = some d →
    ∃ v, ((fs.map fun k => nms.getD k Str.empty).zip vs).lookup x = some v ∧ Rep g F v d
  | [], _, _, _, _, _, h => by cases h
  | _ :: _, _, _, _, _, .nil, h => by cases h
  | k :: fs, _, _, d, hl, .cons (v := v) (d := d') r t, h => by
    have hk : k < nms.length := hl k List.mem_cons_self
    rw [List.zip_cons_cons, List.lookup_cons] at h
    rw [List.map_cons, List.zip_cons_cons, List.lookup_cons]
    by_cases e : f = k
    · subst e
      have e2 : nms.getD f Str.empty = x := by rw [List.getD_eq_getElem?_getD, hx]; rfl
      rw [e2]
      simp only [beq_self_eq_true] at h ⊢
      cases h
      exact ⟨v, rfl, r⟩
    · have e2 : (f == k) = false := beq_eq_false_iff_ne.mpr e
      rw [e2] at h
      have e3 : nms.getD k Str.empty ≠ x := fun z => by
        rw [List.getD_eq_getElem?_getD, List.getElem?_eq_getElem hk] at z
        have z : nms[k] = x := z
        have hk2 : nms[k]? = some x := by rw [List.getElem?_eq_getElem hk, z]
        exact e (nodup_ix nd hx hk2)
      have e4 : (x == nms.getD k Str.empty) = false := beq_eq_false_iff_ne.mpr (Ne.symm e3)
      rw [e4]
      exact lookup_names nd hx (fun k hk => hl k (List.mem_cons_of_mem _ hk)) t h
theorem mem_of_lookup_zip {f : Nat} : ∀ {fs : List Nat} {ds : List PV} {d : PV}, (fs.zip ds).lookup f = some d → f ∈ fs
  | [], _, _, h => by cases h
  | _ :: _, [], _, h => by cases h
  | k :: fs, d' :: ds, d, h => by
    rw [List.zip_cons_cons, List.lookup_cons] at h
    by_cases e : f = k
    · subst e; exact List.mem_cons_self
    · rw [beq_eq_false_iff_ne.mpr e] at h
      exact List.mem_cons_of_mem _ (mem_of_lookup_zip h)
/-- a field of an exception -/
def rXF (K : PySem.W.Frag) (f : Str) : V → Hp → VK → Prop := fun x H Q => ∃ a C dd fs v, x = .ref a ∧ H a = some (ExK (.ref C) (some dd) a) ∧ H dd = some (.xd fs) ∧ ExcC K C ∧ PySem.W.findIn K (.ref C) f = some none ∧ fs.lookup f = some v ∧ Q v H
theorem pe_exf {e : Expr} {f : Str} {pos : Pos} {te : TE} (he : PE X e te) (hb : attributeBase e f X.env (eval e X.env) = eval e X.env) : PE X (.Attribute e f pos) (fun σ H Q => te σ H fun x H1 => rXF X.K f x H1 Q) := by
  refine ⟨fun pins s σ H Q I h => ?_⟩
  refine attr_of hb (thn (he.run pins s σ H _ I h) fun u s1 hh => ?_)
  obtain ⟨x, H1, I1, rx, a, C, dd, fs, v, ex, ea, ed, T, hno, l, q⟩ := hh
  subst ex
  obtain rfl : u = Value.ref a := rx
  obtain ⟨⟨oe, vs, ha, hz, hd⟩, _⟩ : ObjOk X.prog X.w H1 s1.heap a (ExK (.ref C) (some dd) a) := I1.hok a _ ea
  have hx : ObjOk X.prog X.w H1 s1.heap dd (.xd fs) := I1.hok dd _ ed
  obtain ⟨mA, hns, hr⟩ := hx
  obtain ⟨od, ho, hl⟩ := lookIn_ns hns
  obtain ⟨u, hu, ru⟩ := RelO.some_of (v := v) (o := mA f) (by rw [← l]; exact hr f)
  have J : PySem.W.InstAt s1.heap a oe C (some od) := ⟨ha, hz.1, by unfold PySem.W.notCls; rw [hd] <;> rfl, by rw [hz.2]; exact ho⟩
  exact HandSPX.exc_get I1.kIn J T.hg T.hk T.hs (PySem.W.findObj_own T.hd hno rfl (by rw [hl, hu])) (handed_of ru) ⟨v, H1, I1.tok _, ru, q⟩
theorem snd_fld {a : IE} (f : Nat) (ia : SndE L a) : SndE L (.fld a f) := fun P n sc X W e c m => by
  cases e with
  | Attribute x nm pos =>
    rw [mE_fld] at m; simp only [Bool.and_eq_true, decide_eq_true_eq] at m
    obtain ⟨⟨m1, m2⟩, m3⟩ := m
    rw [c.nm] at m3
    have g := ia P n sc X W x c m2
    have h1 := pe_fld (pos := pos) (f := nm) g.pb (nocall_base m1 _ _)
    have h2 := pe_exf (pos := pos) (f := nm) g.pb (nocall_base m1 _ _)
    -- which of the two is told by the meaning
    refine .of ⟨fun pins s σ H Q I h => ?_⟩ rfl
    obtain ⟨F0, H0, F, S, D, r, s', h⟩ := h
    rw [evE_fld] at h
    have ho : PostM L.g W F H (fun v D1 => PostM L.g W F H (fun v D' => Fin L.g F H D' Q v) (M.lift (match v with
      | .obj c fs => if L.T.exc[c]? = some false then ((L.T.flds.getD c []).zip fs).lookup f else none
      | .exn c fs => if L.T.exc[c]? = some true then ((L.T.flds.getD c []).zip fs).lookup f else none
      | _ => none) D1)) (evE L.T (L.call n) a S D) := h.bind
    have go1 : (∀ v D1, evE L.T (L.call n) a S D = some (.ok v, D1) → ∃ c fs, v = .obj c fs) → wpAny (model X.prog X.w) X.A (eval (.Attribute x nm pos) X.env) (EP X pins σ Q) X.xe s := fun hv => by
      refine h1.run pins s σ H Q I ⟨F0, H0, F, S, D, r, s', (ho.tell hv).mono fun v D1 ⟨⟨k, fs, ev⟩, hv⟩ F1 H1 x p hx => ?_⟩
      subst ev
      obtain ⟨d, ed, q⟩ := hv.lift
      have ed : (if L.T.exc[k]? = some false then ((L.T.flds.getD k []).zip fs).lookup f else none) = some d := ed
      split at ed
      · rename_i hk
        have ra : BRep L.g F1 H1 x (.obj k fs) := hx
        rcases ra with ra | ⟨_, _, o, _⟩
        · cases ra with
          | obj ha hl rb =>
            have O := c.clo.objc k hk
            obtain ⟨v, h3, h4⟩ := lookup_names c.clo.fldd m3 (fun j => c.clo.fldl k j) rb ed
            rw [c.K]
            refine ⟨_, _, _, _, v, rfl, (r.trans p).ext _ _ ha, O.cl, c.clo.noat k f nm (mem_of_lookup_zip ed) m3, ?_, q F1 H1 v p h4⟩
            rw [c.clo.fldn]; exact h3
        · cases o
      · cases ed
    have go2 : (∀ v D1, evE L.T (L.call n) a S D = some (.ok v, D1) → ∃ c fs, v = .exn c fs) → wpAny (model X.prog X.w) X.A (eval (.Attribute x nm pos) X.env) (EP X pins σ Q) X.xe s := fun hv => by
      refine h2.run pins s σ H Q I ⟨F0, H0, F, S, D, r, s', (ho.tell hv).mono fun v D1 ⟨⟨k, fs, ev⟩, hv⟩ F1 H1 x p hx => ?_⟩
      subst ev
      obtain ⟨d, ed, q⟩ := hv.lift
      have ed : (if L.T.exc[k]? = some true then ((L.T.flds.getD k []).zip fs).lookup f else none) = some d := ed
      split at ed
      · rename_i hk
        have ra : BRep L.g F1 H1 x (.exn k fs) := hx
        rcases ra with ra | ⟨_, _, o, _⟩
        · cases ra with
          | exn0 ha => simp at ed
          | exn1 ha hd hl rb =>
            obtain ⟨v, h3, h4⟩ := lookup_names c.clo.fldd m3 (fun j => c.clo.fldl k j) rb ed
            rw [c.K]
            refine ⟨_, _, _, _, v, rfl, (r.trans p).ext _ _ ha, (r.trans p).ext _ _ hd, c.clo.excc k hk, c.clo.noat k f nm (mem_of_lookup_zip ed) m3, ?_, q F1 H1 v p h4⟩
            rw [c.clo.fldn]; exact h3
        · cases o
      · cases ed
    cases ev : evE L.T (L.call n) a S D with
    | none => rw [ev] at ho; exact ho.elim
    | some o =>
      obtain ⟨y, D1⟩ := o
      rw [ev] at ho
      cases y with
      | exn k fs => exact go1 fun v D1 z => by rw [ev] at z; cases z
      | ok v =>
        cases v with
        | obj k fs => exact go1 fun v D1 z => by rw [ev] at z; cases z; exact ⟨_, _, rfl⟩
        | exn k fs => exact go2 fun v D1 z => by rw [ev] at z; cases z; exact ⟨_, _, rfl⟩
        | _ => exact ho.elim
  | _ => cases (show false = true from m)
end
end BA
/-! BaSndE5 -/
set_option linter.all false
set_option maxRecDepth 100000
set_option maxHeartbeats 4000000
/-! BaSndE5: isinstance. -/
namespace PySem.W
open PySem PySem.Spec PySem.Calls PyProof.Rows
section
variable {prog : Program} {w : World} {A : Around} {E : Value → Shared → Prop} {s : Shared} {K : Frag} {x D : Addr} {ox : Obj} {od : Option Obj}
theorem ba_dataN {C : Addr} {name : Str} {a g : Value} (hc : (clsIn K C).isSome = true) (ha : findIn K (.ref C) name = some (some a)) (hg : specialIn K a "__get__" = some (some g)) (ht : takesIn K a = some true) : findObj K C od name = some (.bind g a) := by
  obtain ⟨cd, hc⟩ := Option.isSome_iff_exists.mp hc
  unfold findObj
  rw [hc, Option.bind_some, ha, Option.bind_some]
  simp [hg, ht]
theorem ba_classE {Q : Option Value → Shared → Prop} (T : L2.ExcC K D) (X : K.In s.heap) (I : InstAt s.heap x ox D od) (h : Q (some (.ref D)) { s with toks := s.toks + 1 }) : wpAny (model prog w) A (getAttr? (.ref x) "__class__") Q E s := by
  obtain ⟨hga, hgt, hsub, hdct, ha, hn, htk, hm⟩ := T
  have hf : findObj K D od "__class__" = some (.bind (.builtin "getset_descriptor.__get__") (.builtin "object.__class__")) := ba_dataN (by obtain ⟨cd, hc, _⟩ := any_some hdct; rw [hc]; rfl) ha hn htk
  obtain ⟨hp, g, d, t, os⟩ := s
  have L0 := I.type (M := model prog w)
  have L1 := looks_findIn (M := model prog w) X hga
  have L2 := looks_findIn (M := model prog w) X hgt
  have L3 := looks_find (M := model prog w) X I hf
  have sub : Looks (model prog w) hp (isInstance (.ref x) (.type "BaseException")) true := L0.andThen (looks_subIn X hsub)
  have hx0 : (false && onTheHeap (Value.builtin "BaseException.__getattribute__")) = false := rfl
  have hx2 : (Value.builtin "BaseException.__getattribute__" == Value.builtin "object.__getattribute__") = false := by decide +kernel
  have hx1 : (onTheHeap (Value.ref D) && Value.builtin "BaseException.__getattribute__" == Value.builtin "object.__getattribute__") = false := by rw [hx2]; rfl
  unfold getAttr? getAttrBy? getAttrBy
  refine wpAny_bind (wpAny_mkText (wpAny_bind (wpAny_attempt (wpAny_holding (wpAny_bind (L0.at (wpAny_bind (L1.at ?_))))))))
  show wpAny _ _ (if (onTheHeap (Value.ref D) && Value.builtin "BaseException.__getattribute__" == Value.builtin "object.__getattribute__") = true then _ else _) _ _ _
  rw [hx1, if_neg Bool.false_ne_true]
  unfold getAttrByItsOwn hookBefore
  refine wpAny_bind ?_
  rw [if_pos (show onTheHeap (Value.ref D) = true from rfl)]
  refine L2.at ?_
  refine wpAny_bind (wpAny_attempt (wpAny_holding ?_))
  unfold callGetattribute
  rw [hx0, if_neg Bool.false_ne_true]
  unfold boundAndCalled
  rw [PySem.F.excAttr_ValueError.ga.bind (.ref x)]
  refine wpAny_bind (wpAny_pure ?_)
  show wpAny _ _ (call (.builtin "BaseException.__getattribute__") [.ref x, .str "__class__" t]) _ _ _
  refine wpAny_call (codeAny_call_builtin PySem.F.excAttr_ValueError.ga.plain PySem.F.entry_bexc_ga ?_)
  refine @check_slot (model prog w) _ _ ⟨hp, g, d, t + 1, os⟩ "BaseException.__getattribute__" "BaseException" "__getattribute__" (.ref x) [.str "__class__" t] [] _ (by decide +kernel) (by decide +kernel) sub (PySem.F.args_bexc_ga (.ref x) (.str "__class__" t)) ?_
  unfold Builtin.«object.__getattribute__»
  refine wpAny_bind (wpAny_of_eq (a := ((Value.ref x : Value), [Value.str "__class__" t])) (by first | rfl | (simp only [slotArgs]; rfl)) ?_)
  refine wpAny_bind (wpAny_pure (wpAny_bind (L0.at (wpAny_bind (L3.at ?_)))))
  show wpAny _ _ (holding [Value.builtin "object.__class__"] (call (.builtin "getset_descriptor.__get__") [.builtin "object.__class__", .ref x, .ref D]) >>= ret) _ _ _
  refine wpAny_bind (wpAny_holding (wpAny_call (class_get (s := ⟨hp, g, d, t + 1, os⟩) (ox := ox) (od := od) X I hm ?_)))
  refine wpAny_pure ?_
  show wpAny _ _ (handedOut (.ref D)) _ _ _
  rw [handedOut_of (v := .ref D) rfl]
  first
    | exact wpAny_pure (wpAny_pure h)
    | exact wpAny_pure h
    | exact wpAny_pure (wpAny_bind (wpAny_pure (wpAny_pure h)))
theorem ba_kitx (T : L2.ExcC K D) : KitX K (.ref x) (.ref D) (fun h => ∃ ox od, InstAt h x ox D od) where
  ty := fun _ _ _ ⟨_, _, I⟩ => I.type
  it := fun _ _ X _ => by
    obtain ⟨cdD, hcD, _⟩ := any_some T.hd
    unfold clsIn at hcD
    split at hcD
    · rename_i c' d' cd' sl' ho
      intro A' Q' E' s' k q
      unfold isType loadHead
      exact wpAny_bind (wpAny_loadPart (k _ _ (X _ _ ho)) (wpAny_pure q))
    · cases hcD
  ne := (handS_kitx_exc (x := x) (ox := ⟨.none, none, .fields #[], #[]⟩) T.hg T.hk T.hs T.hd T.ha T.hn T.ht T.hm).ne
  ca := fun X ⟨_, _, I⟩ k => ba_classE T X I k
end
end PySem.W

namespace BA
open PySem PySem.Spec PyProof.Rows L2 LamX
/-- a value's class, exceptions too -/
inductive TyB (K : PySem.W.Frag) (H : Hp) : V → Value → Prop
  | x {v : V} {t : Value} (h : TyX K H v t) : TyB K H v t
  | exc {a C : Addr} {od : Option Addr} (h : H a = some (ExK (.ref C) od a)) (hd : ∀ dd, od = some dd → ∃ fs, H dd = some (.xd fs)) (T : ExcC K C) : TyB K H (.ref a) (.ref C)
section
variable {X : Cx} {pins : List (Addr × Obj)} {σ : L2.St} {H : Hp} {s : Shared}
theorem kit_ofB {x : V} {u t : Value} (I : Inv X pins σ H s) (rx : RelV x u) (ty : TyB X.K H x t) : ∃ P : Heap → Prop, PySem.W.KitX X.K u t P ∧ P s.heap ∧ u ≠ .builtin "__main__.__loader__#opaque" := by
  cases ty with
  | x h => exact kit_of I rx h
  | @exc a C od h hd T =>
    cases (show u = Value.ref a from rx)
    obtain ⟨⟨oe, vs, ha, hz, hdt⟩, _⟩ : ObjOk X.prog X.w H s.heap a (ExK (.ref C) od a) := I.hok a _ h
    refine ⟨_, PySem.W.ba_kitx T, ?_, fun z => nomatch z⟩
    cases od with
    | none => exact ⟨oe, none, ha, hz.1, by unfold PySem.W.notCls; rw [hdt] <;> rfl, by rw [hz.2]; trivial⟩
    | some dd =>
      obtain ⟨fs, hdd⟩ := hd dd rfl
      have hx : ObjOk X.prog X.w H s.heap dd (.xd fs) := I.hok dd _ hdd
      obtain ⟨mA, hns, hr⟩ := hx
      obtain ⟨o, ho, hl⟩ := lookIn_ns hns
      exact ⟨oe, some o, ha, hz.1, by unfold PySem.W.notCls; rw [hdt] <;> rfl, by rw [hz.2]; exact ho⟩
end
def rIsB (K : PySem.W.Frag) : List V → Hp → VK → Prop := fun xs H Q => ∃ (x c : V) (t u : Value) (b : Bool), xs = [x, c] ∧ ClsV c u ∧ TyB K H x t ∧ PySem.W.kitOne K t u = some b ∧ Q (.bl b) H
def rIsBT (K : PySem.W.Frag) : List V → Hp → VK → Prop := fun xs H Q => ∃ (x : V) (tp : Addr) (cs : List V) (t : Value) (us : List Value) (b : Bool), xs = [x, .ref tp] ∧ H tp = some (.tup cs) ∧ Paired ClsV cs us ∧ TyB K H x t ∧ PySem.W.kitAny K t us = some b ∧ Q (.bl b) H
section
variable {X : Cx}
theorem call_isB : CallR X (.builtin "isinstance") (rIsB X.K) := by
  intro pins s σ H xs us Q I r h
  obtain ⟨x, c, t, u, b, rfl, k, ty, e, q⟩ := h
  obtain ⟨u1, u2, rfl, r1, r2⟩ := vals2 r
  have e2 := k.eq r2
  subst e2
  obtain ⟨P, Z, p, hx⟩ := kit_ofB I r1 ty
  exact PySem.W.kia_one Z I.kIn p e hx fun tk => ⟨.bl b, H, I.tok tk, rfl, q⟩
theorem call_isBT : CallR X (.builtin "isinstance") (rIsBT X.K) := by
  intro pins s σ H xs us Q I r h
  obtain ⟨x, tp, cs, t, ws, b, rfl, hT, k, ty, e, q⟩ := h
  obtain ⟨u1, u2, rfl, r1, r2⟩ := vals2 r
  cases (show u2 = Value.ref tp from r2)
  obtain ⟨P, Z, p, hx⟩ := kit_ofB I r1 ty
  obtain ⟨_, its, rv, o, h1, h2, n, h3⟩ := (show ObjOk X.prog X.w H s.heap tp (.tup cs) from I.hok tp _ hT)
  have e3 := ClsV.all k rv
  subst e3
  obtain ⟨oc, od, dt, sl⟩ := o
  simp only at h2 h3
  subst h2 h3
  exact PySem.W.kia_tup Z I.kIn p h1 e hx fun tk => ⟨.bl b, H, I.tok tk, rfl, q⟩
end
section
variable {L : LW} {P : MP} {n : Nat} {sc : Scope} {X : Cx} {W : XK} {e : Expr}
/-- the class of a value that isinstance is asked of -/
theorem tyB_of (o : ClsOk L) {F0 H0 F H : Hp} {D : Dr} {x : V} {v : PV} {ct : CT} {b : Bool} (r : RB L.g F0 H0 F H D) (hx : BRep L.g F H x v) (h : isOne L.T v ct = some b) : TyB L.g.K H x (kT L.g v) := by
  have exr := r.ext
  rcases hx with hx | ⟨a, rfl, ow, _⟩
  · cases hx with
    | non => exact .x (.base .non)
    | bl => exact .x (.base (.bl _))
    | int => exact .x (.base (.int _))
    | str => exact .x (.base (.str _))
    | tup q =>
      rcases q with (q | ⟨ob, q⟩) | ⟨ob, its, n, q, hc, _⟩
      · exact .x (.base (.tup (exr _ _ q)))
      · exact .x (.fTuple (exr _ _ q))
      · exact .x (.kTuple q hc)
    | lst q =>
      rcases q with q | ⟨ob, q⟩
      · exact .x (.base (.lst (exr _ _ q)))
      · exact .x (.base (.frz (exr _ _ q)))
    | dct q => exact .x (.base (.dK (exr _ _ q)))
    | @obj a dx c vs ds q hl ra =>
      have hk : L.T.exc[c]? = some false := by
        cases ct <;> (simp only [isOne] at h; split at h <;> first | (rename_i z; exact z) | (rename_i z; exact z.1) | cases h)
      have O := o.objc c hk
      exact .x (.base (.ins (exr _ _ q) O.cl O.ha O.hn O.ht O.hm))
    | @exn0 a c q =>
      have hk : L.T.exc[c]? = some true := by
        cases ct <;> (simp only [isOne] at h; split at h <;> first | (rename_i z; exact z) | (rename_i z; exact z.1) | cases h)
      exact .exc (exr _ _ q) (fun dd z => nomatch z) (o.excc c hk)
    | @exn1 a dd c vs ds q hd hl ra =>
      have hk : L.T.exc[c]? = some true := by
        cases ct <;> (simp only [isOne] at h; split at h <;> first | (rename_i z; exact z) | (rename_i z; exact z.1) | cases h)
      exact .exc (exr _ _ q) (fun d z => by cases z; exact ⟨_, exr _ _ hd⟩) (o.excc c hk)
    | drw => cases h
  · cases ow with
    | lst q => exact .x (.base (.lst q))
    | dct q => exact .x (.base (.dK q))
theorem tyB_any (o : ClsOk L) {F0 H0 F H : Hp} {D : Dr} {x : V} {v : PV} {cs : List CT} {b : Bool} (r : RB L.g F0 H0 F H D) (hx : BRep L.g F H x v) (hne : cs ≠ []) (h : isAny L.T v cs = some b) : TyB L.g.K H x (kT L.g v) := by
  cases cs with
  | nil => exact absurd rfl hne
  | cons c cs =>
    simp only [isAny] at h
    cases e : isOne L.T v c with
    | none => rw [e] at h; cases h
    | some k => exact tyB_of o r hx e
theorem ct_pe (c : CtxB L P n sc X W) {ct : CT} {y : Expr} (m : ctB P sc ct y = true) : PE X y (tC (cTV L.g ct)) := by
  cases y with
  | Name x pos =>
    simp only [ctB, Bool.and_eq_true, okN, Bool.not_eq_true'] at m
    obtain ⟨⟨m1, ⟨m2, m3⟩⟩, m4⟩ := m
    cases ct with
    | own k =>
      have m4 : P.nm.cls[k]? = some x := of_decide_eq_true m4
      rw [c.nm] at m4
      exact pe_glob (c.gl m1) (by rw [c.mg]; exact c.law.cls k x m4) rfl m2
    | int => cases (Option.some.inj (of_decide_eq_true m4)); exact pe_bltn (u := .type "int") (c.gl m1) (c.fre (by decide)) rfl rfl (by decide) m2
    | bool => cases (Option.some.inj (of_decide_eq_true m4)); exact pe_bltn (u := .type "bool") (c.gl m1) (c.fre (by decide)) rfl rfl (by decide) m2
    | str => cases (Option.some.inj (of_decide_eq_true m4)); exact pe_bltn (u := .type "str") (c.gl m1) (c.fre (by decide)) rfl rfl (by decide) m2
    | list => cases (Option.some.inj (of_decide_eq_true m4)); exact pe_bltn (u := .type "list") (c.gl m1) (c.fre (by decide)) rfl rfl (by decide) m2
    | tuple => cases (Option.some.inj (of_decide_eq_true m4)); exact pe_bltn (u := .type "tuple") (c.gl m1) (c.fre (by decide)) rfl rfl (by decide) m2
    | dict => cases (Option.some.inj (of_decide_eq_true m4)); exact pe_bltn (u := .type "dict") (c.gl m1) (c.fre (by decide)) rfl rfl (by decide) m2
  | _ => cases (show false = true from m)
/-- classes in a row -/
def tCls (g : GD) : List CT → TA
  | [] => tNil
  | c :: cs => tCons (tC (cTV g c)) (tCls g cs)
theorem tCls_ok (g : GD) : ∀ (cs : List CT) (σ : L2.St) (H : Hp) (Q : List V → Hp → Prop), Q (cs.map (cTV g)) H → tCls g cs σ H Q
  | [], _, _, _, h => h
  | _ :: cs, σ, H, Q, h => tCls_ok g cs σ H _ h
theorem cts_pa (c : CtxB L P n sc X W) : ∀ {cs : List CT} {es : List Expr}, ctsB P sc cs es = true → es.all nostarB = true → PA X es (tCls L.g cs)
  | [], [], _, _ => pa_nil
  | [], _ :: _, m, _ => by cases m
  | _ :: _, [], m, _ => by cases m
  | ct :: cs, y :: es, m, hs => by
    have m : (ctB P sc ct y && ctsB P sc cs es) = true := m
    simp only [Bool.and_eq_true, List.all_cons] at m hs
    exact pa_cons (ct_pe c m.1) (cts_pa c m.2 hs.2) (star_cons hs.1 _ _)
theorem cts_ne {sc : Scope} {cs : List CT} {es : List Expr} (m : ctsB P sc cs es = true) (h : es ≠ []) : cs ≠ [] := by
  rintro rfl
  cases es with
  | nil => exact h rfl
  | cons => cases (show false = true from m)
theorem paired_cls (g : GD) : ∀ cs : List CT, Paired ClsV (cs.map (cTV g)) (cs.map (cTv g))
  | [] => .nil
  | c :: cs => .cons (clsV g c) (paired_cls g cs)
theorem bE (b : Bool) (g : GD) (F : Hp) : Rep g F (.bl b) (.bl b) := .bl b
theorem cts_len : ∀ {cs : List CT} {es : List Expr}, ctsB P sc cs es = true → cs.length = es.length
  | [], [], _ => rfl
  | [], _ :: _, m => by cases m
  | _ :: _, [], m => by cases m
  | ct :: cs, y :: es, m => by
    have m : (ctB P sc ct y && ctsB P sc cs es) = true := m
    simp only [Bool.and_eq_true] at m
    exact congrArg Nat.succ (cts_len m.2)
theorem boot_isi : bootBuiltins "isinstance" = some (.builtin "isinstance") := rfl
theorem snd_isi {a : IE} (ts : List CT) (ia : SndE L a) : SndE L (.isi a ts) := fun P n sc X W e c m => by
  rw [mE_isi] at m
  split at m
  · rename_i x q y z pos
    simp only [Bool.and_eq_true, decide_eq_true_eq] at m
    obtain ⟨⟨⟨⟨⟨rfl, m2⟩, m3⟩, m4⟩, m5⟩, m6⟩ := m
    have g := ia P n sc X W y c m3
    have one : ∀ {ct : CT}, ts = [ct] → ctB P sc ct z = true → GoodE L n W X (.isi a ts) (.Call (.Name "isinstance" q) [y, z] [] pos) := fun {ct} et mc => by
      subst et
      refine .of ((pe_callB call_isB (c.gl m2) (c.fre (by decide)) boot_isi (pa_cons g.pb (pa_cons (ct_pe c mc) pa_nil (star_cons m5 _ _)) (star_cons m4 _ _)) (by decide) (by decide) (star_cons m4 _ _) (by rw [star_cons m5]; rfl)).imp fun σ H Q h => ?_) rfl
      obtain ⟨F0, H0, F, S, D, r, s, h⟩ := h
      rw [evE_isi] at h
      refine stepB r s h fun F1 H1 x v D1 r1 p1 s1 hx h1 => ?_
      obtain ⟨w', ew, q⟩ := h1.lift
      obtain ⟨b, eb, e2⟩ := Option.map_eq_some_iff.mp ew
      subst e2
      have eo : isOne L.T v ct = some b := by
        rw [← c.T] at *
        simp only [isAny] at eb
        cases eo : isOne P.T v ct with
        | none => rw [eo] at eb; cases eb
        | some k => rw [eo] at eb; cases k <;> exact eb
      rw [c.K]
      exact ⟨x, _, _, _, b, rfl, clsV L.g ct, tyB_of c.clo r1 hx eo, c.law.isa v ct b eo, Fin.now r1 (Fin.shift p1 q) (.bl b)⟩
    split at m6
    · rename_i es k p2
      simp only [Bool.and_eq_true, Bool.not_eq_true', decide_eq_true_eq] at m6
      obtain ⟨⟨⟨k1, k2⟩, k3⟩, k4⟩ := m6
      have hne : es ≠ [] := by rintro rfl; cases k3
      have m6 : _ ∧ _ := ⟨k1, k2⟩
      · have hp : PE X (.Tuple es k p2) (tTup (tCls L.g ts)) := pe_tup (cts_pa c m6.2 m6.1)
        refine .of ((pe_callB call_isBT (c.gl m2) (c.fre (by decide)) boot_isi (pa_cons g.pb (pa_cons hp pa_nil (star_cons m5 _ _)) (star_cons m4 _ _)) (by decide) (by decide) (star_cons m4 _ _) (by rw [star_cons m5]; rfl)).imp fun σ H Q h => ?_) rfl
        obtain ⟨F0, H0, F, S, D, r, s, h⟩ := h
        rw [evE_isi] at h
        refine stepB r s h fun F1 H1 x v D1 r1 p1 s1 hx h1 => ?_
        obtain ⟨w', ew, q⟩ := h1.lift
        obtain ⟨b, eb, e2⟩ := Option.map_eq_some_iff.mp ew
        subst e2
        refine tCls_ok L.g ts _ _ _ ⟨?_, fun p hp => ?_⟩
        · rw [List.length_map, cts_len k2]
          exact Nat.le_trans k4 line1000
        · have p2 := r1.newF hp (o := .tup (ts.map (cTV L.g))) (fun ps e => by cases e)
          rw [c.K]
          exact ⟨x, p, _, _, _, b, rfl, upd_same, paired_cls L.g ts, tyB_any c.clo (r1.trans p2) (hx.grow p2) (cts_ne m6.2 hne) eb, isAny_kit c.law.isa eb, Fin.now (r1.trans p2) (Fin.shift (p1.trans p2) q) (.bl b)⟩
    · rename_i hnt
      match ts, m6 with
      | [ct], m6 =>
        have m6 : (ctB P sc ct z && ctsB P sc [] []) = true := m6
        simp only [Bool.and_eq_true] at m6
        exact one rfl m6.1
      | [], m6 => cases (show false = true from m6)
      | _ :: _ :: _, m6 =>
        simp only [ctsB, Bool.and_eq_true] at m6
        cases (show false = true from m6.2)
  · cases m
end
end BA
/-! BaSndE6 -/
set_option linter.all false
set_option maxRecDepth 100000
set_option maxHeartbeats 1000000
/-! BaSndE6: targets; what loops and comprehensions walk. -/
namespace BA
open PySem PySem.Spec PyProof.Rows L2 LamX

/-! ### slots -/
section
variable {g : GD} {F0 H0 F H F' H' : Hp} {D D' : Dr} {σ : L2.St} {S : BA.Env}
theorem getset {α : Type} {l : List α} {i j : Nat} {a b : α} (h : (l.set i a)[j]? = some b) : (i = j ∧ a = b ∧ i < l.length) ∨ (i ≠ j ∧ l[j]? = some b) := by
  rw [List.getElem?_set] at h
  by_cases e : i = j
  · subst e
    rw [if_pos rfl] at h
    split at h
    · rename_i hl
      exact .inl ⟨rfl, Option.some.inj h, hl⟩
    · cases h
  · rw [if_neg e] at h
    exact .inr ⟨e, h⟩
theorem SL.val {i : Nat} {x : V} {v : PV} (s : SL g H0 F H σ S) (hx : Rep g F x v) : SL g H0 F H (σ.set i (some x)) (S.set i (.val v)) where
  len := by rw [List.length_set, List.length_set]; exact s.len
  sl := fun j w e => by
    rcases getset e with ⟨rfl, e2, hl⟩ | ⟨ne, e2⟩
    · cases e2
      exact ⟨x, by rw [List.getElem?_set_self (by rw [s.len]; exact hl)], hx⟩
    · rw [List.getElem?_set_ne ne]; exact s.sl j w e2
  ow := fun j w e => by
    rcases getset e with ⟨rfl, e2, hl⟩ | ⟨ne, e2⟩
    · cases e2
    · rw [List.getElem?_set_ne ne]; exact s.ow j w e2
  ap := fun j k a v w njk e1 e2 e3 => by
    rcases getset e1 with ⟨rfl, e4, hl⟩ | ⟨ne, e4⟩
    · cases e4
    · rcases getset e2 with ⟨rfl, e5, hl⟩ | ⟨ne2, e5⟩
      · cases e5
      · rw [List.getElem?_set_ne ne] at e3
        rw [List.getElem?_set_ne ne2]
        exact s.ap j k a v w njk e4 e5 e3
theorem SL.gone {i : Nat} (s : SL g H0 F H σ S) : SL g H0 F H (σ.set i none) (S.set i .non) where
  len := by rw [List.length_set, List.length_set]; exact s.len
  sl := fun j w e => by
    rcases getset e with ⟨rfl, e2, hl⟩ | ⟨ne, e2⟩
    · cases e2
    · rw [List.getElem?_set_ne ne]; exact s.sl j w e2
  ow := fun j w e => by
    rcases getset e with ⟨rfl, e2, hl⟩ | ⟨ne, e2⟩
    · cases e2
    · rw [List.getElem?_set_ne ne]; exact s.ow j w e2
  ap := fun j k a v w njk e1 e2 e3 => by
    rcases getset e1 with ⟨rfl, e4, hl⟩ | ⟨ne, e4⟩
    · cases e4
    · rcases getset e2 with ⟨rfl, e5, hl⟩ | ⟨ne2, e5⟩
      · cases e5
      · rw [List.getElem?_set_ne ne] at e3
        rw [List.getElem?_set_ne ne2]
        exact s.ap j k a v w njk e4 e5 e3
theorem SL.wiped (s : SL g H0 F H σ S) : ∀ vs : List Nat, SL g H0 F H (wipe σ vs) (wipeE S vs)
  | [] => s
  | v :: vs => (SL.wiped s vs).gone
end
theorem wipe_get (σ : L2.St) (i : Nat) : ∀ vs : List Nat, (wipe σ vs)[i]? = if i ∈ vs then (if i < σ.length then some none else none) else σ[i]?
  | [] => by simp [wipe]
  | v :: vs => by
    show ((wipe σ vs).set v none)[i]? = _
    rw [List.getElem?_set, wipe_length, wipe_get σ i vs]
    by_cases e : v = i
    · subst e; simp
    · rw [if_neg e]
      have : (i ∈ v :: vs) ↔ i ∈ vs := by
        rw [List.mem_cons]
        exact ⟨fun h => h.elim (fun z => absurd z.symm e) id, .inr⟩
      by_cases hi : i ∈ vs
      · rw [if_pos hi, if_pos (this.mpr hi)]
      · rw [if_neg hi, if_neg (fun z => hi (this.mp z))]
theorem wipe_same {σ σ2 : L2.St} {vs : List Nat} (hl : σ2.length = σ.length) (h : ∀ i, i ∉ vs → σ2[i]? = (wipe σ vs)[i]?) : wipe σ2 vs = wipe σ vs := by
  apply List.ext_getElem?
  intro i
  rw [wipe_get σ2 i vs]
  by_cases hi : i ∈ vs
  · rw [if_pos hi, wipe_get, if_pos hi, hl]
  · rw [if_neg hi, h i hi]

/-! ### targets -/
def gT (L : LW) (t : IT) : TG := fun x σ H Q => ∃ H0 F S v S', Same F H ∧ SL L.g H0 F H σ S ∧ Rep L.g F x v ∧ bindT t v S = some S' ∧ ∀ σ', (∀ F2 H2, Same F F2 → SL L.g H0 F2 H2 σ S → SL L.g H0 F2 H2 σ' S') → σ'.length = σ.length → (∀ i, i ∉ t.slots → σ'[i]? = σ[i]?) → Q σ' H
def gTs (L : LW) (ts : List IT) : TGs := fun xs σ H Q => ∃ H0 F S vs S', Same F H ∧ SL L.g H0 F H σ S ∧ RepAll L.g F xs vs ∧ bindTs ts vs S = some S' ∧ ∀ σ', (∀ F2 H2, Same F F2 → SL L.g H0 F2 H2 σ S → SL L.g H0 F2 H2 σ' S') → σ'.length = σ.length → (∀ i, i ∉ slotsL ts → σ'[i]? = σ[i]?) → Q σ' H
theorem bindTs_len : ∀ {ts : List IT} {vs : List PV} {S S' : BA.Env}, bindTs ts vs S = some S' → ts.length = vs.length
  | [], [], _, _, _ => rfl
  | [], _ :: _, _, _, h => by simp [bindTs] at h
  | _ :: _, [], _, _, h => by simp [bindTs] at h
  | t :: ts, v :: vs, S, S', h => by
    simp only [bindTs] at h
    obtain ⟨S1, h1, h2⟩ := Option.bind_eq_some_iff.mp h
    exact congrArg Nat.succ (bindTs_len h2)
theorem mTs_len {P : MP} {sc : Scope} : ∀ {ts : List IT} {es : List Expr}, mTs P sc ts es = true → ts.length = es.length
  | [], [], _ => rfl
  | [], _ :: _, h => by simp [mTs] at h
  | _ :: _, [], h => by simp [mTs] at h
  | t :: ts, e :: es, h => by
    simp only [mTs, Bool.and_eq_true] at h
    exact congrArg Nat.succ (mTs_len h.2)
theorem mTs_star {P : MP} {sc : Scope} {env : PySem.Env} : ∀ {ts : List IT} {es : List Expr}, mTs P sc ts es = true → assignEach es env = es.map fun t => (false, assign t env)
  | [], [], _ => rfl
  | [], _ :: _, h => by simp [mTs] at h
  | _ :: _, [], h => by simp [mTs] at h
  | t :: ts, e :: es, h => by
    simp only [mTs, Bool.and_eq_true] at h
    rw [List.map_cons, ← mTs_star h.2]
    have hn := h.1.1
    cases e with
    | Starred => cases (show false = true from hn)
    | _ => rfl
theorem findIdx_none {α : Type} : ∀ (l : List α) (f : α → Bool × (Value → Sem Unit)), (∀ a, (f a).1 = false) → (l.map f).findIdx? (·.1) = none := fun l f h => by
  rw [List.findIdx?_eq_none_iff]
  intro x hx
  obtain ⟨a, _, rfl⟩ := List.mem_map.mp hx
  simp [h a]
mutual
theorem pg_T {L : LW} {P : MP} {sc : Scope} {X : Cx} (hK : X.K = L.g.K) (hN : X.N = P.N) (nd : P.N.Nodup) (hc : X.calm = true) (hsc : X.env.scope = sc) : ∀ (t : IT) (e : Expr), (∀ i ∈ t.slots, ∀ y, P.N[i]? = some y → X.fn y = true ∨ X.env.scope.names.lookup y = some .local) → mT P sc t e = true → PG X e (gT L t)
  | .nm i, e, hf, m => by
    cases e with
    | Name x pos =>
      simp only [mT, Bool.and_eq_true, decide_eq_true_eq, locB, Bool.or_eq_true] at m
      have hx : Loc X.env.scope x := by rw [hsc]; exact m.2
      have hf' := hf i (by simp [IT.slots]) x m.1
      refine ⟨fun pins s σ H v u Q I r h => ?_⟩
      obtain ⟨H0, F, S, w, S', hE, hS, hx', hb, q⟩ := h
      refine (pg_name (X := X) (pos := pos) (by rw [hN]; exact nd) (by rw [hN]; exact m.1) hx hf').run pins s σ H v u Q I r ?_
      simp only [bindT, Option.some.injEq] at hb
      subst hb
      refine q _ (fun F2 H2 e h => h.val (hx'.mono e)) (by rw [List.length_set]) fun j hj => ?_
      rw [List.getElem?_set_ne]
      rintro rfl
      exact hj (by simp [IT.slots])
    | _ => simp [mT] at m
  | .tp ts, e, hf, m => by
    cases e with
    | Tuple es k pos =>
      simp only [mT] at m
      have hs := mTs_star (env := X.env) m
      have h0 := pgs_T hK hN nd hc hsc ts es (by simpa [IT.slots] using hf) m
      have h1 := pg_tup (k := k) (pos := pos) (n := es.length) hc h0 (by rw [hs, List.length_map]) (by rw [hs]; exact findIdx_none _ _ fun _ => rfl)
      refine ⟨fun pins s σ H v u Q I r h => ?_⟩
      obtain ⟨H0, F, S, w, S', hE, hS, hx', hb, q⟩ := h
      refine h1.run pins s σ H v u Q I r ?_
      cases w with
      | tup ds =>
        simp only [bindT] at hb
        obtain ⟨a, xs, rfl, h3, ra, _⟩ := (BRep.of hx').tup hE
        rw [hK]
        refine ⟨a, xs, rfl, h3, ?_, H0, F, S, ds, S', hE, hS, ra, hb, fun σ' hS' hl hq => q σ' hS' hl (by simpa [IT.slots] using hq)⟩
        rw [ra.length, ← bindTs_len hb, mTs_len m]
      | _ => simp [bindT] at hb
    | _ => simp [mT] at m
theorem pgs_T {L : LW} {P : MP} {sc : Scope} {X : Cx} (hK : X.K = L.g.K) (hN : X.N = P.N) (nd : P.N.Nodup) (hc : X.calm = true) (hsc : X.env.scope = sc) : ∀ (ts : List IT) (es : List Expr), (∀ i ∈ slotsL ts, ∀ y, P.N[i]? = some y → X.fn y = true ∨ X.env.scope.names.lookup y = some .local) → mTs P sc ts es = true → PGs X es (gTs L ts)
  | [], es, hf, m => by
    cases es with
    | nil =>
      refine ⟨fun pins s σ H vs us Q I r h => ?_⟩
      obtain ⟨H0, F, S, w, S', hE, hS, hx', hb, q⟩ := h
      refine pgs_nil.run pins s σ H vs us Q I r ?_
      cases hx' with
      | nil =>
        simp only [bindTs, Option.some.injEq] at hb
        subst hb
        exact ⟨rfl, q σ (fun _ _ _ h => h) rfl fun _ _ => rfl⟩
      | cons => simp [bindTs] at hb
    | cons => simp [mTs] at m
  | t :: ts, es, hf, m => by
    cases es with
    | nil => simp [mTs] at m
    | cons e es =>
      simp only [mTs, Bool.and_eq_true] at m
      have h1 := pg_T hK hN nd hc hsc t e (fun i hi => hf i (by simp [slotsL, hi])) m.1.2
      have h2 := pgs_T hK hN nd hc hsc ts es (fun i hi => hf i (by simp [slotsL, hi])) m.2
      have hne : nostarB e = true := m.1.1
      have h3 := pgs_cons h1 h2 (by cases e <;> first | rfl | cases (show false = true from hne))
      refine ⟨fun pins s σ H vs us Q I r h => ?_⟩
      obtain ⟨H0, F, S, w, S', hE, hS, hx', hb, q⟩ := h
      refine h3.run pins s σ H vs us Q I r ?_
      cases hx' with
      | nil => simp [bindTs] at hb
      | cons hx hxs =>
        simp only [bindTs] at hb
        obtain ⟨S1, e1, e2⟩ := Option.bind_eq_some_iff.mp hb
        refine ⟨_, _, rfl, H0, F, S, _, S1, hE, hS, hx, e1, fun σ1 hS1 hl1 hq1 => ⟨H0, F, S1, _, S', hE, hS1 F H (Same.refl _) hS, hxs, e2, fun σ2 hS2 hl2 hq2 => q σ2 (fun F2 H2 e h => hS2 F2 H2 e (hS1 F2 H2 e h)) (hl2.trans hl1) fun i hi => ?_⟩⟩
        simp only [slotsL, List.mem_append, not_or] at hi
        rw [hq2 i hi.2, hq1 i hi.1]
end

/-! ### iterators -/
/-- J walks xs; strong: whatever is done to one's own lists -/
def ItR (strong : Bool) (g : GD) (F H : Hp) (J : It) (xs : List PV) : Prop := xs.length ≤ sizeLine ∧ ∀ (i : Nat) (F' H' F1 H1 : Hp) (D' : Dr), RB g F1 H1 F' H' D' → Same F F' → (strong = false → RB g F H F' H' D') →
  (∀ d, xs[i]? = some d → J.go i H' ∧ ∀ x H'', J.yld i H' x H'' → ∃ F'', RB g F' H' F'' H'' D' ∧ Rep g F'' x d) ∧ (i = xs.length → J.stop i H')
def LsAt (strong : Bool) (g : GD) (sq : Hp → Addr → List V → Prop) (F H : Hp) (a : Addr) (ds : List PV) : Prop := ds.length ≤ sizeLine ∧ ∀ (F' H' F1 H1 : Hp) (D' : Dr), RB g F1 H1 F' H' D' → Same F F' → (strong = false → RB g F H F' H' D') → ∃ xs, sq H' a xs ∧ RepAll g F' xs ds
section
variable {g : GD} {F0 H0 F H F' H' : Hp} {D D' : Dr} {strong : Bool} {a b : Addr} {ds es : List PV}
theorem it_list (h : LsAt strong g (SqL g.K) F H a ds) : ItR strong g F H (Itl g.K a) ds := ⟨h.1, fun i F' H' F1 H1 D' r e w => by
  obtain ⟨xs, h1, ra⟩ := h.2 F' H' F1 H1 D' r e w
  refine ⟨fun d hd => ?_, fun hi => ⟨xs, h1, by rw [ra.length, hi]; exact Nat.le_refl _⟩⟩
  obtain ⟨x, hx, rx⟩ := ra.getD hd
  refine ⟨⟨xs, x, h1, hx⟩, fun y H'' ⟨e1, hy⟩ => ?_⟩
  subst e1
  have := hy xs h1
  rw [hx] at this
  cases this
  exact ⟨F', r.refl, rx⟩⟩
theorem it_tup (h : LsAt strong g (SqT g.K) F H a ds) : ItR strong g F H (Itt g.K a) ds := ⟨h.1, fun i F' H' F1 H1 D' r e w => by
  obtain ⟨xs, h1, ra⟩ := h.2 F' H' F1 H1 D' r e w
  refine ⟨fun d hd => ?_, fun hi => ⟨xs, h1, by rw [ra.length, hi]; exact Nat.le_refl _⟩⟩
  obtain ⟨x, hx, rx⟩ := ra.getD hd
  refine ⟨⟨xs, x, h1, hx⟩, fun y H'' ⟨e1, hy⟩ => ?_⟩
  subst e1
  have := hy xs h1
  rw [hx] at this
  cases this
  exact ⟨F', r.refl, rx⟩⟩
theorem enumFrom_get (k : Nat) : ∀ (ds : List PV) (i : Nat) (d : PV), (enumFrom k ds)[i]? = some d → ∃ e, ds[i]? = some e ∧ d = .tup [.int ((k + i : Nat)), e]
  | [], i, d, h => by simp [enumFrom] at h
  | x :: ds, 0, d, h => by simp only [enumFrom, List.getElem?_cons_zero, Option.some.injEq] at h; exact ⟨x, rfl, h.symm⟩
  | x :: ds, i + 1, d, h => by
    simp only [enumFrom, List.getElem?_cons_succ] at h
    obtain ⟨e, h1, h2⟩ := enumFrom_get (k + 1) ds i d h
    refine ⟨e, by simpa using h1, ?_⟩
    rw [h2]
    have : k + 1 + i = k + (i + 1) := by omega
    rw [this]
theorem enumFrom_len (k : Nat) : ∀ ds : List PV, (enumFrom k ds).length = ds.length
  | [] => rfl
  | _ :: ds => congrArg Nat.succ (enumFrom_len (k + 1) ds)
theorem pair_new {T : Addr} {x y : V} {d e : PV} (r : RB g F0 H0 F H D) (hT : H T = none) (hx : Rep g F x d) (hy : Rep g F y e) : ∃ F'', RB g F H F'' (upd H T (.tup [x, y])) D ∧ Rep g F'' (.ref T) (.tup [d, e]) := by
  refine ⟨upd F T (.tup [x, y]), r.newF hT (fun ps z => by cases z), .tup (.inl (.inl upd_same)) ?_ (by show 2 ≤ sizeLine; decide)⟩
  have s := same_new (H := F) (o := .tup [x, y]) (r.ext.free hT)
  exact .cons (hx.mono s) (.cons (hy.mono s) .nil)
theorem it_enum (h : LsAt strong g (SqL g.K) F H a ds) : ItR strong g F H (Ite g.K a) (enumFrom 0 ds) := ⟨by rw [enumFrom_len]; exact h.1, fun i F' H' F1 H1 D' r e w => by
  obtain ⟨xs, h1, ra⟩ := h.2 F' H' F1 H1 D' r e w
  refine ⟨fun d hd => ?_, fun hi => ⟨xs, h1, by rw [ra.length, hi, enumFrom_len]; exact Nat.le_refl _⟩⟩
  obtain ⟨e, he, rfl⟩ := enumFrom_get 0 ds i d hd
  obtain ⟨x, hx, rx⟩ := ra.getD he
  refine ⟨⟨xs, x, h1, hx⟩, fun y H'' ⟨T, z, e1, hT, e2, hy⟩ => ?_⟩
  subst e1 e2
  have := hy xs h1
  rw [hx] at this
  cases this
  rw [Nat.zero_add]
  exact pair_new r hT (.int _) rx⟩
theorem zipV_get : ∀ (ds es : List PV) (i : Nat) (d : PV), (zipV ds es)[i]? = some d → ∃ x y, ds[i]? = some x ∧ es[i]? = some y ∧ d = .tup [x, y]
  | [], es, i, d, h => by simp [zipV] at h
  | _ :: _, [], i, d, h => by simp [zipV] at h
  | x :: ds, y :: es, 0, d, h => by simp only [zipV, List.getElem?_cons_zero, Option.some.injEq] at h; exact ⟨x, y, rfl, rfl, h.symm⟩
  | x :: ds, y :: es, i + 1, d, h => by
    simp only [zipV, List.getElem?_cons_succ] at h
    obtain ⟨u, v, h1, h2, h3⟩ := zipV_get ds es i d h
    exact ⟨u, v, by simpa using h1, by simpa using h2, h3⟩
theorem zipV_len : ∀ ds es : List PV, (zipV ds es).length = min ds.length es.length
  | [], es => by simp [zipV]
  | _ :: _, [] => by simp [zipV]
  | x :: ds, y :: es => by simp [zipV, zipV_len ds es, Nat.add_min_add_right]
theorem it_zip (h : LsAt strong g (SqL g.K) F H a ds) (k : LsAt strong g (SqL g.K) F H b es) : ItR strong g F H (Itz g.K a b) (zipV ds es) := ⟨by rw [zipV_len]; exact Nat.le_trans (Nat.min_le_left _ _) h.1, fun i F' H' F1 H1 D' r e w => by
  obtain ⟨xs, h1, ra⟩ := h.2 F' H' F1 H1 D' r e w
  obtain ⟨ys, k1, rb⟩ := k.2 F' H' F1 H1 D' r e w
  refine ⟨fun d hd => ?_, fun hi => ⟨xs, ys, h1, k1, by rw [ra.length, rb.length, hi, zipV_len]; omega⟩⟩
  obtain ⟨u, v, e1, e2, rfl⟩ := zipV_get ds es i d hd
  obtain ⟨x, hx, rx⟩ := ra.getD e1
  obtain ⟨y, hy, ry⟩ := rb.getD e2
  refine ⟨⟨xs, ys, x, y, h1, k1, hx, hy⟩, fun z H'' ⟨T, x', y', e1, hT, e2, hx', hy'⟩ => ?_⟩
  subst e1 e2
  have := hx' xs h1
  rw [hx] at this
  cases this
  have := hy' ys k1
  rw [hy] at this
  cases this
  exact pair_new r hT rx ry⟩
theorem it_zipT (h : LsAt strong g (SqT g.K) F H a ds) (k : LsAt strong g (SqT g.K) F H b es) : ItR strong g F H (RZ.ItzT g.K a b) (zipV ds es) := ⟨by rw [zipV_len]; exact Nat.le_trans (Nat.min_le_left _ _) h.1, fun i F' H' F1 H1 D' r e w => by
  obtain ⟨xs, h1, ra⟩ := h.2 F' H' F1 H1 D' r e w
  obtain ⟨ys, k1, rb⟩ := k.2 F' H' F1 H1 D' r e w
  refine ⟨fun d hd => ?_, fun hi => ⟨xs, ys, h1, k1, by rw [ra.length, rb.length, hi, zipV_len]; omega⟩⟩
  obtain ⟨u, v, e1, e2, rfl⟩ := zipV_get ds es i d hd
  obtain ⟨x, hx, rx⟩ := ra.getD e1
  obtain ⟨y, hy, ry⟩ := rb.getD e2
  refine ⟨⟨xs, ys, x, y, h1, k1, hx, hy⟩, fun z H'' ⟨T, x', y', e1, hT, e2, hx', hy'⟩ => ?_⟩
  subst e1 e2
  have := hx' xs h1
  rw [hx] at this
  cases this
  have := hy' ys k1
  rw [hy] at this
  cases this
  exact pair_new r hT rx ry⟩
theorem rangeV_get (lo c : Int) : ∀ (n i : Nat) (d : PV), (rangeV lo c n)[i]? = some d → i < n ∧ d = .int (lo + (i : Nat) * c)
  | 0, i, d, h => by simp [rangeV] at h
  | n + 1, 0, d, h => by
    simp only [rangeV, List.getElem?_cons_zero, Option.some.injEq] at h
    exact ⟨Nat.succ_pos _, by rw [← h]; simp⟩
  | n + 1, i + 1, d, h => by
    simp only [rangeV, List.getElem?_cons_succ] at h
    obtain ⟨h1, h2⟩ := rangeV_get (lo + c) c n i d h
    refine ⟨Nat.succ_lt_succ h1, ?_⟩
    rw [h2]
    congr 1
    rw [Int.natCast_succ, Int.add_mul, Int.one_mul]
    omega
theorem it_rng {lo : Int} {n : Nat} (hn : n ≤ sizeLine) : ItR strong g F H (Itr lo n) (rangeV lo 1 n) := ⟨by rw [rangeV_len]; exact hn, fun i F' H' F1 H1 D' r e w => by
  refine ⟨fun d hd => ?_, fun hi => by rw [hi, rangeV_len]; exact Nat.le_refl n⟩
  obtain ⟨h1, h2⟩ := rangeV_get lo 1 n i d hd
  refine ⟨h1, fun x H'' ⟨e1, e2⟩ => ?_⟩
  subst e1 e2
  rw [h2, Int.mul_one]
  exact ⟨F', r.refl, .int _⟩⟩
theorem it_rngC {lo c : Int} {n : Nat} (hn : n ≤ sizeLine) : ItR strong g F H (Itc lo c n) (rangeV lo c n) := ⟨by rw [rangeV_len]; exact hn, fun i F' H' F1 H1 D' r e w => by
  refine ⟨fun d hd => ?_, fun hi => by rw [hi, rangeV_len]; exact Nat.le_refl n⟩
  obtain ⟨h1, h2⟩ := rangeV_get lo c n i d hd
  refine ⟨h1, fun x H'' ⟨e1, e2⟩ => ?_⟩
  subst e1 e2
  rw [h2]
  exact ⟨F', r.refl, .int _⟩⟩
theorem it_str {z : Str} (hz : z.length ≤ sizeLine) : ItR strong g F H (Its z) (z.cps.toList.map fun c => PV.str ⟨#[c]⟩) := ⟨by rw [List.length_map, Array.length_toList]; exact hz, fun i F' H' F1 H1 D' r e w => by
  refine ⟨fun d hd => ?_, fun hi => by rw [List.length_map, Array.length_toList] at hi; rw [hi]; exact Nat.le_refl z.cps.size⟩
  rw [List.getElem?_map] at hd
  obtain ⟨c, h1, h2⟩ := Option.map_eq_some_iff.mp hd
  subst h2
  have h3 : z.cps[i]? = some c := by rw [← Array.getElem?_toList]; exact h1
  have hlt : i < z.cps.size := by
    by_cases hl : i < z.cps.size
    · exact hl
    · rw [Array.getElem?_eq_none (by omega)] at h3; cases h3
  refine ⟨hlt, fun x H'' ⟨e1, c', h4, e2⟩ => ?_⟩
  subst e1 e2
  rw [h3] at h4
  cases h4
  exact ⟨F', r.refl, .str _ (by show 1 ≤ sizeLine; decide)⟩⟩
/-- a list that is read, as it grows -/
theorem ls_lst {x : V} (w : Bool) (hx : if w = true then BRep g F H x (.lst ds) else Rep g F x (.lst ds)) : ∃ a, x = .ref a ∧ LsAt (!w) g (SqL g.K) F H a ds := by
  cases w with
  | true =>
    have hx : BRep g F H x (.lst ds) := hx
    rcases hx with hx | ⟨a, rfl, o, h1, h2⟩
    · cases hx with
      | lst q ra z => exact ⟨_, rfl, z, fun F' H' F1 H1 D' r e w => ⟨_, .inl (rd_mono r.ext (rd_mono e q)), ra.mono e⟩⟩
    · have hz : ds.length ≤ sizeLine := by cases o with | lst _ _ z => exact z
      refine ⟨a, rfl, hz, fun F' H' F1 H1 D' r e w => ?_⟩
      cases o.grow (w rfl) h1 h2 with
      | lst q ra z => exact ⟨_, .inl (.inl q), ra⟩
  | false =>
    have hx : Rep g F x (.lst ds) := hx
    cases hx with
    | lst q ra z => exact ⟨_, rfl, z, fun F' H' F1 H1 D' r e w => ⟨_, .inl (rd_mono r.ext (rd_mono e q)), ra.mono e⟩⟩
theorem ls_tup {x : V} (w : Bool) (hx : if w = true then BRep g F H x (.tup ds) else Rep g F x (.tup ds)) : ∃ a, x = .ref a ∧ LsAt (!w) g (SqT g.K) F H a ds := by
  have hx : Rep g F x (.tup ds) := by
    cases w with
    | true =>
      have hx : BRep g F H x (.tup ds) := hx
      rcases hx with hx | ⟨a, rfl, o, h1, h2⟩
      · exact hx
      · cases o
    | false => exact hx
  cases hx with
  | tup q ra z => exact ⟨_, rfl, z, fun F' H' F1 H1 D' r e w => ⟨_, sqT_mono r.ext (sqT_mono e q), ra.mono e⟩⟩
theorem LsAt.sq {sq : Hp → Addr → List V → Prop} (r : RB g F0 H0 F H D) (h : LsAt strong g sq F H a ds) : ∃ xs, sq H a xs ∧ RepAll g F xs ds := h.2 F H F0 H0 D r (Same.refl _) (fun _ => r.refl)
theorem LsAt.grow {sq : Hp → Addr → List V → Prop} (p : RB g F H F' H' D) (h : LsAt strong g sq F H a ds) : LsAt strong g sq F' H' a ds := ⟨h.1, fun F2 H2 F1 H1 D' r e w => h.2 F2 H2 F1 H1 D' r (p.f0.trans e) fun z => p.trans (w z)⟩
end
end BA
/-! BaSndE7 -/
set_option linter.all false
set_option maxRecDepth 100000
set_option maxHeartbeats 1000000
/-! BaSndE7: what is walked, by its meaning; list comprehensions. -/
namespace BA
open PySem PySem.Spec PyProof.Rows L2 LamX
def tX (w : Bool) (L : LW) (n : Nat) (W : XK) (ie : IE) : TE := if w = true then BA.tB L n W ie else tE L n W ie
def tI (L : LW) (n : Nat) (W : XK) (strong : Bool) (it : II) : TI := fun σ H R => ∃ F0 H0 F S D, RB L.g F0 H0 F H D ∧ SL L.g H0 F H σ S ∧ PostM L.g W F H (fun xs D' => ∀ F' H' J, RB L.g F H F' H' D' → ItR strong L.g F' H' J xs → R J H') (evI L.T (L.call n) it S D)
def SndI (L : LW) (it : II) : Prop := ∀ (P : MP) (n : Nat) (sc : Scope) (X : Cx) (W : XK) (w : Bool) (tg e : Expr), CtxB L P n sc X W → mI it P w sc tg e = true → PI X tg e (tI L n W (!w) it)
section
variable {L : LW} {P : MP} {n : Nat} {sc : Scope} {X : Cx} {W : XK} {e : Expr}
theorem pe_X {w : Bool} {ie : IE} (g : GoodE L n W X ie e) (h : (w || !ie.isB) = true) : PE X e (tX w L n W ie) := by
  cases w with
  | true => exact g.pb
  | false => exact g.pe (by simpa using h)
section
variable {F0 H0 F H : Hp} {D : Dr} {S : BA.Env} {σ : L2.St} {α : Type} {R : α → Dr → Prop}
theorem stepX {w : Bool} {ie : IE} {k : PV → M α} {Q : VK} {p : PV → Prop} (hp : ∀ v D', evE L.T (L.call n) ie S D = some (.ok v, D') → p v) (r : RB L.g F0 H0 F H D) (s : SL L.g H0 F H σ S) (h : PostM L.g W F H R ((evE L.T (L.call n) ie S >>= k) D))
    (q : ∀ F1 H1 x v D1, RB L.g F0 H0 F1 H1 D1 → RB L.g F H F1 H1 D1 → SL L.g H0 F1 H1 σ S → p v → (if w = true then BRep L.g F1 H1 x v else Rep L.g F1 x v) → PostM L.g W F1 H1 R (k v D1) → Q x H1) : tX w L n W ie σ H Q := by
  cases w with
  | true => exact ⟨F0, H0, F, S, D, r, s, (h.bind.tell hp).mono fun v D1 ⟨hv, h1⟩ F1 H1 x p hx => q F1 H1 x v D1 (r.trans p) p (s.grow p) hv hx (h1.shift p)⟩
  | false => exact ⟨F0, H0, F, S, D, r, s, (h.bind.tell hp).mono fun v D1 ⟨hv, h1⟩ F1 H1 x p hx => q F1 H1 x v D1 (r.trans p) p (s.grow p) hv hx (h1.shift p)⟩
theorem stepI {strong : Bool} {it : II} {k : List PV → M α} {Q : It → Hp → Prop} (r : RB L.g F0 H0 F H D) (s : SL L.g H0 F H σ S) (h : PostM L.g W F H R ((evI L.T (L.call n) it S >>= k) D))
    (q : ∀ F1 H1 J xs D1, RB L.g F0 H0 F1 H1 D1 → RB L.g F H F1 H1 D1 → SL L.g H0 F1 H1 σ S → ItR strong L.g F1 H1 J xs → PostM L.g W F1 H1 R (k xs D1) → Q J H1) : tI L n W strong it σ H Q :=
  ⟨F0, H0, F, S, D, r, s, h.bind.mono fun v D1 hv F1 H1 J p hx => q F1 H1 J v D1 (r.trans p) p (s.grow p) hx (hv.shift p)⟩
end
theorem sndi_seq {a : IE} (ia : SndE L a) : SndI L (.seq a) := fun P n sc X W w tg e c m => by
  rw [mI_seq] at m; simp only [Bool.and_eq_true] at m
  have hp := pe_X (ia P n sc X W e c m.1) m.2
  refine PI.or (pi_list hp) (pi_tup hp) fun σ H R h => ?_
  obtain ⟨F0, H0, F, S, D, r, s, h⟩ := h
  rw [evI_seq] at h
  by_cases hl : ∃ ds D1, evE L.T (L.call n) a S D = some (.ok (.lst ds), D1)
  · left
    obtain ⟨ds, D1, hl⟩ := hl
    refine stepX (p := fun v => ∃ ds, v = .lst ds) (fun v D' z => by rw [hl] at z; cases z; exact ⟨_, rfl⟩) r s h fun F1 H1 x v D1 r1 p1 s1 ⟨ds, ev⟩ hx h1 => ?_
    subst ev
    obtain ⟨xs, ex, q⟩ := h1.lift
    cases ex
    obtain ⟨b, rfl, hL⟩ := ls_lst w hx
    rw [c.K]
    obtain ⟨vs, h3, _⟩ := hL.sq r1
    exact ⟨b, rfl, ⟨vs, h3⟩, q F1 H1 _ p1 (it_list hL)⟩
  · right
    refine stepX (p := fun v => ∀ ds, v ≠ .lst ds) (fun v D' z ds e => by subst e; exact hl ⟨_, _, z⟩) r s h fun F1 H1 x v D1 r1 p1 s1 ev hx h1 => ?_
    obtain ⟨xs, ex, q⟩ := h1.lift
    cases v with
    | lst ds => exact absurd rfl (ev ds)
    | tup ds =>
      cases ex
      obtain ⟨b, rfl, hL⟩ := ls_tup w hx
      rw [c.K]
      obtain ⟨vs, h3, _⟩ := hL.sq r1
      exact ⟨b, rfl, ⟨vs, h3⟩, q F1 H1 _ p1 (it_tup hL)⟩
    | _ => cases ex
theorem small_le {i : Int} (h : small i = true) : -1000000 ≤ i ∧ i ≤ 1000000 := by
  simpa [small] using h
theorem sndi_rng1 {a : IE} (ia : SndE L a) : SndI L (.rng1 a) := fun P n sc X W w tg e c m => by
  rw [mI_rng1] at m
  split at m
  · rename_i x p y pos
    simp only [Bool.and_eq_true, decide_eq_true_eq] at m
    obtain ⟨⟨⟨rfl, m2⟩, m3⟩, m4⟩ := m
    have hy := star_cons m3 [] X.env
    refine (pi_range1 (c.gl m2) (c.fre (by decide)) (pa_cons (ia P n sc X W y c m4).pb pa_nil hy) hy).imp fun σ H R h => ?_
    obtain ⟨F0, H0, F, S, D, r, s, h⟩ := h
    rw [evI_rng1] at h
    refine stepB r s h fun F1 H1 x v D1 r1 p1 s1 hx h1 => ?_
    obtain ⟨xs, ex, q⟩ := h1.lift
    cases v with
    | int j =>
      have ex : (if small j = true then some (rangeV 0 1 j.toNat) else none) = some xs := ex
      split at ex
      · rename_i hs
        have := small_le hs
        cases ex
        exact ⟨j, by rw [hx.int], by omega, by omega, q F1 H1 _ p1 (it_rng (by rw [sizeLine_eq]; omega))⟩
      · cases ex
    | _ => cases ex
  · cases m
theorem sndi_rng2 {a b : IE} (ia : SndE L a) (ib : SndE L b) : SndI L (.rng2 a b) := fun P n sc X W w tg e c m => by
  rw [mI_rng2] at m
  split at m
  · rename_i x p y z pos
    simp only [Bool.and_eq_true, decide_eq_true_eq] at m
    obtain ⟨⟨⟨⟨⟨rfl, m2⟩, m3⟩, m4⟩, m5⟩, m6⟩ := m
    have hz := star_cons m4 [] X.env
    have hy := star_cons m3 [z] X.env
    refine (pi_range2 (c.gl m2) (c.fre (by decide)) (pa_cons (ia P n sc X W y c m5).pb (pa_cons (ib P n sc X W z c m6).pb pa_nil hz) hy) (by rw [hy, hz]; rfl) hz).imp fun σ H R h => ?_
    obtain ⟨F0, H0, F, S, D, r, s, h⟩ := h
    rw [evI_rng2] at h
    refine stepB r s h fun F1 H1 x v D1 r1 p1 s1 hx h1 => stepB r1 s1 h1 fun F2 H2 y u D2 r2 p2 s2 hy h2 => ?_
    obtain ⟨xs, ex, q⟩ := h2.lift
    cases v with
    | int i =>
      cases u with
      | int j =>
        have ex : (if (small i && small j) = true then some (rangeV i 1 (j - i).toNat) else none) = some xs := ex
        split at ex
        · rename_i hs
          simp only [Bool.and_eq_true] at hs
          have h3 := small_le hs.1
          have h4 := small_le hs.2
          cases ex
          exact ⟨i, j, by rw [hx.int, hy.int], ⟨by omega, by omega, by omega, by omega⟩, q F2 H2 _ (p1.trans p2) (it_rng (by rw [sizeLine_eq]; omega))⟩
        · cases ex
      | _ => cases ex
    | _ => cases ex
  · cases m
theorem sndi_rng3 {a b d : IE} (ia : SndE L a) (ib : SndE L b) (id : SndE L d) : SndI L (.rng3 a b d) := fun P n sc X W w tg e c m => by
  rw [mI_rng3] at m
  split at m
  · rename_i x p y z u pos
    simp only [Bool.and_eq_true, decide_eq_true_eq] at m
    obtain ⟨⟨⟨⟨⟨⟨⟨rfl, m2⟩, m3⟩, m4⟩, m5⟩, m6⟩, m7⟩, m8⟩ := m
    have hu := star_cons m5 [] X.env
    have hz := star_cons m4 [u] X.env
    have hy := star_cons m3 [z, u] X.env
    refine (pi_range3 (c.gl m2) (c.fre (by decide)) (pa_cons (ia P n sc X W y c m6).pb (pa_cons (ib P n sc X W z c m7).pb (pa_cons (id P n sc X W u c m8).pb pa_nil hu) hz) hy) hy (by rw [hz, hu]; rfl)).imp fun σ H R h => ?_
    obtain ⟨F0, H0, F, S, D, r, s, h⟩ := h
    rw [evI_rng3] at h
    refine stepB r s h fun F1 H1 x v D1 r1 p1 s1 hx h1 => stepB r1 s1 h1 fun F2 H2 y u D2 r2 p2 s2 hy h2 => stepB r2 s2 h2 fun F3 H3 z k D3 r3 p3 s3 hz h3 => ?_
    obtain ⟨xs, ex, q⟩ := h3.lift
    cases v with
    | int i =>
      cases u with
      | int j =>
        cases k with
        | int k =>
          have ex : (if (small i && small j && decide (k = -1)) = true then some (rangeV i (-1) (i - j).toNat) else none) = some xs := ex
          by_cases hs : (small i && small j && decide (k = -1)) = true
          · rw [if_pos hs] at ex
            simp only [Bool.and_eq_true, decide_eq_true_eq] at hs
            obtain ⟨⟨hs1, hs2⟩, hk⟩ := hs
            have h3 := small_le hs1
            have h4 := small_le hs2
            have ex := (Option.some.inj ex).symm
            subst ex hk
            exact ⟨i, j, -1, _, by rw [hx.int, hy.int, hz.int], RgC.neg (by omega) (by omega) (by omega) (by omega), q F3 H3 _ ((p1.trans p2).trans p3) (it_rngC (by rw [sizeLine_eq]; omega))⟩
          · rw [if_neg hs] at ex; cases ex
        | _ => cases ex
      | _ => cases ex
    | _ => cases ex
  · cases m
theorem sndi_enm {a : IE} (ia : SndE L a) : SndI L (.enm a) := fun P n sc X W w tg e c m => by
  rw [mI_enm] at m
  split at m
  · rename_i x p y pos
    simp only [Bool.and_eq_true, decide_eq_true_eq] at m
    obtain ⟨⟨⟨⟨⟨rfl, m2⟩, m3⟩, m4⟩, m5⟩, m6⟩ := m
    cases tg with
    | Tuple es k tpos =>
      have hy := star_cons m3 [] X.env
      refine (pi_enum (c.gl m2) (c.fre (by decide)) (pa_cons (pe_X (ia P n sc X W y c m4) m6) pa_nil hy) hy).imp fun σ H R h => ?_
      obtain ⟨F0, H0, F, S, D, r, s, h⟩ := h
      rw [evI_enm] at h
      refine stepX (p := fun _ => True) (fun _ _ _ => trivial) r s h fun F1 H1 x v D1 r1 p1 s1 _ hx h1 => ?_
      obtain ⟨xs, ex, q⟩ := h1.lift
      cases v with
      | lst ds =>
        cases ex
        obtain ⟨b, rfl, hL⟩ := ls_lst w hx
        rw [c.K]
        obtain ⟨vs, h3, _⟩ := hL.sq r1
        exact ⟨b, vs, rfl, h3, q F1 H1 _ p1 (it_enum hL)⟩
      | _ => cases ex
    | _ => cases (show false = true from m5)
  · cases m
theorem sndi_zip {a b : IE} (ia : SndE L a) (ib : SndE L b) : SndI L (.zip a b) := fun P n sc X W w tg e c m => by
  rw [mI_zip] at m
  split at m
  · rename_i x p y z pos
    simp only [Bool.and_eq_true, decide_eq_true_eq] at m
    obtain ⟨⟨⟨⟨⟨⟨⟨rfl, m2⟩, m3⟩, m4⟩, m5⟩, m6⟩, m7⟩, m8⟩ := m
    have ma : (w || !a.isB) = true := by cases w <;> simp_all
    have mb : (w || !b.isB) = true := by cases w <;> simp_all
    cases tg with
    | Tuple es k tpos =>
      have hz := star_cons m4 [] X.env
      have hy := star_cons m3 [z] X.env
      refine (RZ.pi_zipA (c.gl m2) (c.fre (by decide)) (pa_cons (pe_X (ia P n sc X W y c m5) ma) (pa_cons (pe_X (ib P n sc X W z c m6) mb) pa_nil hz) hy) hy (by rw [hz]; rfl)).imp fun σ H R h => ?_
      obtain ⟨F0, H0, F, S, D, r, s, h⟩ := h
      rw [evI_zip] at h
      refine stepX (p := fun _ => True) (fun _ _ _ => trivial) r s h fun F1 H1 x v D1 r1 p1 s1 _ hx h1 => stepX (p := fun _ => True) (fun _ _ _ => trivial) r1 s1 h1 fun F2 H2 y u D2 r2 p2 s2 _ hy h2 => ?_
      obtain ⟨xs, ex, q⟩ := h2.lift
      rw [c.K]
      cases v with
      | lst ds =>
        cases u with
        | lst es =>
          cases ex
          obtain ⟨b, rfl, hL⟩ := ls_lst w hx
          obtain ⟨b', rfl, hL'⟩ := ls_lst w hy
          have hL := hL.grow p2
          obtain ⟨vs, h3, _⟩ := hL.sq r2
          obtain ⟨ws, h4, _⟩ := hL'.sq r2
          exact ⟨b, b', vs, ws, rfl, .inl ⟨h3, h4, q F2 H2 _ (p1.trans p2) (it_zip hL hL')⟩⟩
        | _ => cases ex
      | tup ds =>
        cases u with
        | tup es =>
          cases ex
          obtain ⟨b, rfl, hL⟩ := ls_tup w hx
          obtain ⟨b', rfl, hL'⟩ := ls_tup w hy
          have hL := hL.grow p2
          obtain ⟨vs, h3, _⟩ := hL.sq r2
          obtain ⟨ws, h4, _⟩ := hL'.sq r2
          exact ⟨b, b', vs, ws, rfl, .inr ⟨h3, h4, q F2 H2 _ (p1.trans p2) (it_zipT hL hL')⟩⟩
        | _ => cases ex
      | _ => cases u <;> cases ex
    | _ => cases (show false = true from m7)
  · cases m
theorem sndi_chr {a : IE} (ia : SndE L a) : SndI L (.chr a) := fun P n sc X W w tg e c m => by
  rw [mI_chr] at m
  refine (pi_str (ia P n sc X W e c m).pb).imp fun σ H R h => ?_
  obtain ⟨F0, H0, F, S, D, r, s, h⟩ := h
  rw [evI_chr] at h
  refine stepB r s h fun F1 H1 x v D1 r1 p1 s1 hx h1 => ?_
  obtain ⟨xs, ex, q⟩ := h1.lift
  cases v with
  | str z =>
    cases ex
    exact ⟨z, hx.str.1, q F1 H1 _ p1 (it_str hx.str.2)⟩
  | _ => cases ex

/-! ### the loop of a comprehension -/
theorem RB.write {g : GD} {F0 H0 F H : Hp} {D : Dr} {p : Addr} {u u' : List V} (r : RB g F0 H0 F H D) (h0 : NT H0 p) (hF : F p = none) (hp : H p = some (.lst u)) (hd : p ≠ g.d) (hl : p ≠ g.l) : RB g F0 H0 F (upd H p (.lst u')) D where
  ext := fun b o e => by
    rw [upd_ne]
    · exact r.ext b o e
    · rintro rfl; rw [hF] at e; cases e
  f0 := r.f0
  new := r.new
  keep := fun b o e ht h1 h2 => by
    rw [upd_ne]
    · exact r.keep b o e ht h1 h2
    · rintro rfl; exact (h0.no e ht).elim
  nt := r.nt
  tabs := fun q hq => by
    obtain ⟨ps, e1, e2, e3⟩ := r.tabs q hq
    refine ⟨ps, ?_, e2, fun pos cv hc => ?_⟩
    · rw [upd_ne]
      · exact e1
      · rintro rfl; rw [hp] at e1; cases e1
    · obtain ⟨c, e4, e5⟩ := e3 pos cv hc
      refine ⟨c, e4, ?_⟩
      rw [upd_ne]
      · exact e5
      · rintro rfl; rw [hp] at e5; cases e5
  dr := by
    obtain ⟨ne, fd, fl, hll, ⟨lc, hdd, hc⟩, z1, z2⟩ := r.dr
    exact ⟨ne, fd, fl, by rw [upd_ne (Ne.symm hl)]; exact hll, ⟨lc, by rw [upd_ne (Ne.symm hd)]; exact hdd, hc⟩, z1, z2⟩
/-- a list of one's own stays through what does not know it -/
theorem RB.accs {g : GD} {F H F' H' : Hp} {D : Dr} {p : Addr} {u : List V} (r : RB g F H F' H' D) (hF : F p = none) (hp : H p = some (.lst u)) (hd : p ≠ g.d) (hl : p ≠ g.l) : H' p = some (.lst u) ∧ F' p = none := by
  refine ⟨r.keep p _ hp (fun ps e => by cases e) hd hl, ?_⟩
  cases e : F' p with
  | none => rfl
  | some o =>
    rcases r.new p o e with h | h
    · rw [hF] at h; cases h
    · exact (h.no hp (fun ps z => by cases z)).elim
theorem compLL_noex {f : PV → M (List PV)} (hf : ∀ x D c fs D', f x D ≠ some (.exn c fs, D')) : ∀ (xs : List PV) (D : Dr) (c : Nat) (fs : List PV) (D' : Dr), compLL f xs D ≠ some (.exn c fs, D')
  | [], D, c, fs, D' => fun h => by cases h
  | x :: xs, D, c, fs, D' => fun h => by
    obtain ⟨o, D1, h1, h2⟩ := M.bind_ok (m := f x) h
    cases o with
    | exn => exact hf x D _ _ _ h1
    | ok r =>
      obtain ⟨o, D2, h3, h4⟩ := M.bind_ok (m := compLL f xs) h2
      cases o with
      | exn => exact compLL_noex hf xs D1 _ _ _ h3
      | ok ys => cases h4
/-- the turns of a loop that appends to the list at p -/
theorem lc_run {g : GD} {F1 H1 Fj : Hp} {J : It} {xs : List PV} {p : Addr} {f : PV → M (List PV)} {body : V → Hp → (Hp → Prop) → Prop} {Qd : Hp → Prop} {F' H' : Hp} {Di D2 : Dr} {acc : List V} {yacc ys : List PV}
    (hd : p ≠ g.d) (hl : p ≠ g.l) (h1 : NT H1 p)
    (hJ : ∀ (i : Nat) (F' H' : Hp) (D' : Dr), RB g F1 H1 F' H' D' → Same Fj F' → (∀ d, xs[i]? = some d → J.go i H' ∧ ∀ x H'', J.yld i H' x H'' → ∃ F'', RB g F' H' F'' H'' D' ∧ Rep g F'' x d) ∧ (i = xs.length → J.stop i H'))
    (hB : ∀ (F' H' : Hp) (Di D3 : Dr) (x : PV) (xv : V) (rs : List PV) (acc : List V) (yacc : List PV) (Nx : Hp → Prop), RB g F1 H1 F' H' Di → Same Fj F' → Rep g F' xv x → f x Di = some (.ok rs, D3) → H' p = some (.lst acc) → F' p = none → RepAll g F' acc yacc → yacc.length + rs.length ≤ sizeLine →
      (∀ F4 H4 acc4, RB g F1 H1 F4 H4 D3 → Same F' F4 → H4 p = some (.lst acc4) → F4 p = none → RepAll g F4 acc4 (yacc ++ rs) → Nx H4) → body xv H' Nx)
    (r : RB g F1 H1 F' H' Di) (sj : Same Fj F') (hp : H' p = some (.lst acc)) (hF : F' p = none) (ra : RepAll g F' acc yacc) (hc : compLL f xs Di = some (.ok ys, D2)) (hz : yacc.length + ys.length ≤ sizeLine)
    (hQ : ∀ F4 H4 acc4, RB g F1 H1 F4 H4 D2 → Same F' F4 → H4 p = some (.lst acc4) → F4 p = none → RepAll g F4 acc4 (yacc ++ ys) → Qd H4) :
    ∃ W : Nat → Nat → Hp → Prop, (∃ m, W 0 m H') ∧ ∀ i m H, W i m H → (J.stop i H ∧ Qd H) ∨ (J.go i H ∧ ∃ Nx : Hp → Prop, (∀ H', Nx H' → ∃ m', m' < m ∧ W (i + 1) m' H') ∧ ∀ x H', J.yld i H x H' → body x H' Nx) := by
  refine ⟨fun i m Hi => m = xs.length - i ∧ i ≤ xs.length ∧ ∃ Fi D acc yi yr, RB g F1 H1 Fi Hi D ∧ Same F' Fi ∧ Same Fj Fi ∧ Hi p = some (.lst acc) ∧ Fi p = none ∧ RepAll g Fi acc (yacc ++ yi) ∧ compLL f (xs.drop i) D = some (.ok yr, D2) ∧ ys = yi ++ yr, ⟨xs.length, by simp, Nat.zero_le _, F', Di, acc, [], ys, r, Same.refl _, sj, hp, hF, by rw [List.append_nil]; exact ra, hc, rfl⟩, ?_⟩
  rintro i m Hi ⟨rfl, hi, Fi, D, acci, yi, yr, ri, si, sji, hpi, hFi, rai, hci, rfl⟩
  obtain ⟨j1, j2⟩ := hJ i Fi Hi D ri sji
  by_cases hlt : i < xs.length
  · right
    have hx : xs[i]? = some xs[i] := List.getElem?_eq_getElem hlt
    obtain ⟨hgo, hy⟩ := j1 _ hx
    have hdr : xs.drop i = xs[i] :: xs.drop (i + 1) := (List.getElem_cons_drop hlt).symm
    rw [hdr] at hci
    obtain ⟨o, D3, e1, e2⟩ := M.bind_ok (m := f xs[i]) hci
    cases o with
    | exn c fs => cases e2
    | ok rs =>
      obtain ⟨o, D4, e3, e4⟩ := M.bind_ok (m := compLL f (xs.drop (i + 1))) e2
      cases o with
      | exn c fs => cases e4
      | ok yr' =>
        cases e4
        refine ⟨hgo, fun Hn => ∃ F4 acc4, RB g F1 H1 F4 Hn D3 ∧ Same Fi F4 ∧ Hn p = some (.lst acc4) ∧ F4 p = none ∧ RepAll g F4 acc4 ((yacc ++ yi) ++ rs), ?_, fun x H'' yl => ?_⟩
        · rintro Hn ⟨F4, acc4, r4, s4, hp4, hF4, ra4⟩
          refine ⟨xs.length - (i + 1), by omega, rfl, hlt, F4, D3, acc4, yi ++ rs, yr', r4, si.trans s4, sji.trans s4, hp4, hF4, by rw [← List.append_assoc]; exact ra4, e3, by rw [List.append_assoc]⟩
        · obtain ⟨F'', r'', rx⟩ := hy x H'' yl
          obtain ⟨hp'', hF''⟩ := r''.accs hFi hpi hd hl
          refine hB F'' H'' D D3 xs[i] x rs acci (yacc ++ yi) _ (ri.trans r'') (sji.trans r''.f0) rx e1 hp'' hF'' (rai.mono r''.f0) ?_ fun F4 H4 acc4 r4 s4 hp4 hF4 ra4 => ⟨F4, acc4, r4, r''.f0.trans s4, hp4, hF4, ra4⟩
          simp only [List.length_append] at hz ⊢
          omega
  · left
    have e : i = xs.length := by omega
    subst e
    rw [List.drop_length] at hci
    cases hci
    rw [List.append_nil] at hQ
    exact ⟨j2 rfl, hQ Fi Hi acci ri si hpi hFi rai⟩
end
end BA
/-! BaSndE8 -/
set_option linter.all false
set_option maxRecDepth 100000
set_option maxHeartbeats 1000000
/-! BaSndE8: list comprehensions. -/
namespace BA
open PySem PySem.Spec PyProof.Rows L2 LamX
def E0 : XK := fun _ _ _ => False
section
variable {L : LW} {P : MP} {n : Nat} {sc : Scope} {X : Cx} {W : XK} {e : Expr}
theorem CtxB.blk (c : CtxB L P n sc X W) {scope : Scope} (hk : scope.kind = .function) (s : Shared) (H : Hp) (C : Addr) (cl : List (Str × Addr)) (fp : List Addr) : CtxB L { P with lam := false } n (relS scope sc) (X.blk s H scope (compEnvC scope cl C X.env) fp) E0 :=
  ⟨c.law, c.clo, c.fns, c.nm, c.T, c.prog, c.w, c.K, c.mg, c.base, c.N, c.nd, c.calm, by show relS scope X.env.scope = _; rw [c.scope], hk, c.room, LamX.takes0, fun z => nomatch z⟩
def condM (T : Tab) (call : Nat → List PV → M PV) (ie : IE) (S : BA.Env) : M Bool := if ie.isNil = true then pure true else evE T call ie S >>= fun v => M.lift (truV v)
def tC1 (L : LW) (n : Nat) (W : XK) (ie : IE) : TT := fun σ H Q => ∃ F0 H0 F S D, RB L.g F0 H0 F H D ∧ SL L.g H0 F H σ S ∧ PostM L.g W F H (fun b D' => FinT L.g F H D' Q b) (condM L.T (L.call n) ie S D)
def ifsB (P : MP) (ie : IE) (sc : Scope) : List Expr → Bool
  | [] => ie.isNil
  | [c] => !ie.isNil && !ie.isB && mE ie P sc c
  | _ => false
theorem pts_of {ie : IE} {ifs : List Expr} (ia : SndE L ie) (c : CtxB L P n sc X W) (m : ifsB P ie sc ifs = true) : PTs X ifs (tC1 L n W ie) := by
  match ifs, m with
  | [], m =>
    have m : ie.isNil = true := m
    refine ⟨fun pins s σ H Q I h => pts_nil.run pins s σ H Q I ?_⟩
    obtain ⟨F0, H0, F, S, D, r, s', h⟩ := h
    unfold condM at h
    rw [if_pos m] at h
    exact h F H r.refl
  | [x], m =>
    have m : (!ie.isNil && !ie.isB && mE ie P sc x) = true := m
    simp only [Bool.and_eq_true, Bool.not_eq_true'] at m
    refine ⟨fun pins s σ H Q I h => (pts_one ((ia P n sc X W x c m.2).pt m.1.2)).run pins s σ H Q I ?_⟩
    obtain ⟨F0, H0, F, S, D, r, s', h⟩ := h
    unfold condM at h
    rw [if_neg (by rw [m.1.1]; exact Bool.false_ne_true)] at h
    exact ⟨F0, H0, F, S, D, r, s', h⟩
theorem compL_eq (f : PV → M (Option PV)) : ∀ (xs : List PV), compL f xs = compLL (fun x => f x >>= fun r => pure r.toList) xs
  | [] => rfl
  | x :: xs => by
    unfold compL compLL
    rw [M.bind_assoc]
    congr 1
    funext r
    rw [M.pure_bind, ← compL_eq f xs]
    congr 1
    funext ys
    cases r <;> rfl
theorem compL_len {f : PV → M (Option PV)} : ∀ (xs : List PV) (D : Dr) (ys : List PV) (D' : Dr), compL f xs D = some (.ok ys, D') → ys.length ≤ xs.length
  | [], D, ys, D', h => by cases h; exact Nat.le_refl _
  | x :: xs, D, ys, D', h => by
    obtain ⟨o, D1, h1, h2⟩ := M.bind_ok (m := f x) h
    cases o with
    | exn => cases h2
    | ok r =>
      obtain ⟨o, D2, h3, h4⟩ := M.bind_ok (m := compL f xs) h2
      cases o with
      | exn => cases h4
      | ok zs =>
        cases h4
        have := compL_len xs D1 zs _ h3
        cases r with
        | none => exact Nat.le_succ_of_le this
        | some y => exact Nat.succ_le_succ this
theorem noex_ok {α : Type} {m : M α} {D D' : Dr} {a : α} (h : M.noex m D = some (.ok a, D')) : m D = some (.ok a, D') := by
  unfold M.noex at h
  cases e : m D with
  | none => rw [e] at h; cases h
  | some q =>
    obtain ⟨o, d⟩ := q
    rw [e] at h
    cases o with
    | ok b => exact h
    | exn c fs => cases h
theorem noex_no {α : Type} {m : M α} {D D' : Dr} {c : Nat} {fs : List PV} : M.noex m D ≠ some (.exn c fs, D') := fun h => by
  unfold M.noex at h
  cases e : m D with
  | none => rw [e] at h; cases h
  | some q =>
    obtain ⟨o, d⟩ := q
    rw [e] at h
    cases o <;> cases h
/-- one item's turn, without the error -/
def elM (T : Tab) (call : Nat → List PV → M PV) (t : IT) (cond elt : IE) (S : BA.Env) (x : PV) : M (Option PV) := M.lift (bindT t x S) >>= fun S' => condM T call cond S' >>= fun c => if c = true then evE T call elt S' >>= fun v => pure (some v) else pure none
theorem elM_ok {T : Tab} {call : Nat → List PV → M PV} {t : IT} {cond elt : IE} {S : BA.Env} {x : PV} {D D3 : Dr} {r : Option PV} (h : elM T call t cond elt S x D = some (.ok r, D3)) :
    ∃ S', bindT t x S = some S' ∧ ∃ b D4, condM T call cond S' D = some (.ok b, D4) ∧ ((b = true ∧ ∃ v, evE T call elt S' D4 = some (.ok v, D3) ∧ r = some v) ∨ (b = false ∧ r = none ∧ D4 = D3)) := by
  unfold elM at h
  cases e : bindT t x S with
  | none => rw [e] at h; cases h
  | some S' =>
    rw [e] at h
    have h : (condM T call cond S' >>= fun c => if c = true then evE T call elt S' >>= fun v => pure (some v) else pure none) D = some (.ok r, D3) := h
    obtain ⟨o, D4, h1, h2⟩ := M.bind_ok h
    cases o with
    | exn => cases h2
    | ok b =>
      refine ⟨S', rfl, b, D4, h1, ?_⟩
      cases b with
      | true =>
        simp only [if_true] at h2
        obtain ⟨o, D5, h3, h4⟩ := M.bind_ok (m := evE T call elt S') h2
        cases o with
        | exn => cases h4
        | ok v => cases h4; exact .inl ⟨rfl, v, h3, rfl⟩
      | false =>
        cases h2
        exact .inr ⟨rfl, rfl, rfl⟩
theorem app_new {g : GD} {F1 H1 F4 H4 : Hp} {D : Dr} {p : Addr} {acc : List V} {y : V} (r : RB g F1 H1 F4 H4 D) (h1 : NT H1 p) (hd : p ≠ g.d) (hl : p ≠ g.l) (hp : H4 p = some (.lst acc)) (hF : F4 p = none) : RB g F1 H1 F4 (upd H4 p (.lst (acc ++ [y]))) D := r.write h1 hF hp hd hl
/-- one turn -/
theorem el_body {t : IT} {cond elt : IE} {g0 : TG} {σ : L2.St} {vs : List Nat} {S : BA.Env} {F0 H0 F1 H1 F' H' : Hp} {D1 Di D3 : Dr} {p : Addr} {x : PV} {xv : V} {r : Option PV} {acc : List V} {yacc : List PV} {Nx : Hp → Prop}
    (hd : p ≠ L.g.d) (hl : p ≠ L.g.l) (h1 : NT H1 p) (hsub : ∀ i ∈ t.slots, i ∈ vs) (r1 : RB L.g F0 H0 F1 H1 D1) (ri : RB L.g F1 H1 F' H' Di) (s' : SL L.g H0 F' H' σ S)
    (hx : Rep L.g F' xv x) (hf : elM L.T (L.call n) t cond elt (wipeE S vs) x Di = some (.ok r, D3)) (hp : H' p = some (.lst acc)) (hF : F' p = none) (ra : RepAll L.g F' acc yacc) (hz : yacc.length + r.toList.length ≤ sizeLine)
    (hN : ∀ F4 H4 acc4, RB L.g F1 H1 F4 H4 D3 → Same F' F4 → H4 p = some (.lst acc4) → F4 p = none → RepAll L.g F4 acc4 (yacc ++ r.toList) → Nx H4) :
    gT L t xv (wipe σ vs) H' fun σ2 H2 => wipe σ2 vs = wipe σ vs ∧ tC1 L n E0 cond σ2 H2 fun b H3 =>
      if b = true then tE L n E0 elt σ2 H3 fun y H4 => ∃ acc, H4 p = some (.lst acc) ∧ acc.length < sizeLine ∧ Nx (upd H4 p (.lst (acc ++ [y]))) else Nx H3 := by
  obtain ⟨S', hb, b, D4, e1, e2⟩ := elM_ok hf
  refine ⟨H0, F', wipeE S vs, x, S', ri.ext, s'.wiped vs, hx, hb, fun σ2 hsl hlen hq => ⟨wipe_same (hlen.trans (wipe_length _ _)) fun i hi => hq i fun z => hi (hsub i z), F0, H0, F', S', Di, r1.trans ri, hsl F' H' (Same.refl _) (s'.wiped vs), ?_⟩⟩
  have sl2 := hsl F' H' (Same.refl _) (s'.wiped vs)
  rw [e1]
  intro F3 H3 p3
  have sl3 := sl2.grow p3
  obtain ⟨hp3, hF3⟩ := p3.accs hF hp hd hl
  rcases e2 with ⟨rfl, v, e3, rfl⟩ | ⟨rfl, rfl, rfl⟩
  · simp only [if_true]
    refine ⟨F0, H0, F3, S', D4, (r1.trans ri).trans p3, sl3, ?_⟩
    rw [e3]
    intro F4 H4 y p4 hy
    obtain ⟨hp4, hF4⟩ := p4.accs hF3 hp3 hd hl
    have rr := (ri.trans p3).trans p4
    have hlen : acc.length < sizeLine := by
      rw [ra.length]
      simp only [Option.toList_some, List.length_singleton] at hz
      omega
    refine ⟨acc, hp4, hlen, hN F4 _ (acc ++ [y]) (app_new rr h1 hd hl hp4 hF4) (p3.f0.trans p4.f0) upd_same hF4 ?_⟩
    exact (ra.mono (p3.f0.trans p4.f0)).append (.cons hy .nil)
  · simp only [Bool.false_eq_true, if_false]
    exact hN F3 H3 acc (ri.trans p3) p3.f0 hp3 hF3 (by simpa using ra.mono p3.f0)
theorem tO_of_tE {ie : IE} (hv : ∀ S D v D', evE L.T (L.call n) ie S D = some (.ok v, D') → ∃ ds, v = .lst ds) {σ : L2.St} {H : Hp} {Q : VK} (h : tE L n W ie σ H Q) : tO L n W ie σ H Q := by
  obtain ⟨F0, H0, F, S, D, r, s, h⟩ := h
  refine ⟨F0, H0, F, S, D, r, s, (h.tell (hv S D)).mono fun v D' ⟨⟨ds, e⟩, q⟩ => ?_⟩
  subst e
  exact ⟨ds, rfl, Fin.lst q⟩
theorem noset_fold {iter : Expr} (h : nosetB iter = true) (env : PySem.Env) (x : Value) : foldedSetIterable iter env x = pure x := by
  cases iter with
  | Set => cases (show false = true from h)
  | _ => rfl
theorem slots_fn {scope : Scope} {N : List Str} {s : Shared} {H : Hp} {C : Addr} {cl : List (Str × Addr)} {fp : List Addr} (hsc : X.env.scope = sc) {is : List Nat} (h : (is.all fun i => match N[i]? with
      | some y => decide ((relS scope sc).names.lookup y = some .local) || decide (scope.names.lookup y = some .cell)
      | none => false) = true) : ∀ i ∈ is, ∀ y, N[i]? = some y → (X.blk s H scope (compEnvC scope cl C X.env) fp).fn y = true ∨ (X.blk s H scope (compEnvC scope cl C X.env) fp).env.scope.names.lookup y = some .local := fun i hi y hy => by
  have h1 := List.all_eq_true.mp h i hi
  rw [hy] at h1
  simp only [Bool.or_eq_true, decide_eq_true_eq] at h1
  rcases h1 with h1 | h1
  · right
    show (relS scope X.env.scope).names.lookup y = some .local
    rw [hsc]; exact h1
  · left
    show (scope.names.lookup y == some .cell) = true
    rw [h1]; rfl
theorem ownOf_slots (N : List Str) (vs : List Nat) : (ownOf N vs).map (·.2) = vs := by
  unfold ownOf
  rw [List.map_map]
  exact List.map_id' vs
theorem cmp1_tlc {t : IT} {it : II} {cond elt : IE} {σ : L2.St} {H : Hp} {Q : VK} (h : tO L n W (.cmp1 t it cond elt) σ H Q) : tLc (tI L n W (!true) it) (gT L t) (tC1 L n E0 cond) (tE L n E0 elt) t.slots σ H Q := by
  obtain ⟨F0, H0, F, S, D, r, s, h⟩ := h
  rw [evE_cmp1] at h
  refine stepI r s h fun F1 H1 J xs D1 r1 p1 s1 hJ h1 p hp => ?_
  obtain ⟨hd, hl⟩ := r1.not_dl hp
  have e0 : (fun x => M.noex (M.lift (bindT t x (wipeE S t.slots)) >>= fun S' => (if cond.isNil = true then pure true else evE L.T (L.call n) cond S' >>= fun v => M.lift (truV v)) >>= fun c => if c = true then evE L.T (L.call n) elt S' >>= fun v => pure (some v) else pure none)) = fun x => M.noex (elM L.T (L.call n) t cond elt (wipeE S t.slots) x) := rfl
  rw [e0] at h1
  cases ec : compL (fun x => M.noex (elM L.T (L.call n) t cond elt (wipeE S t.slots) x)) xs D1 with
  | none => rw [M.bind_eq, ec] at h1; exact h1.elim
  | some q =>
    obtain ⟨o, D2⟩ := q
    rw [M.bind_eq, ec] at h1
    cases o with
    | exn k fs =>
      rw [compL_eq] at ec
      exact absurd ec (compLL_noex (fun x D c fs D' h => by
        obtain ⟨o, d, h1, h2⟩ := M.bind_ok h
        cases o with
        | ok r => cases h2
        | exn => exact noex_no h1) xs D1 k fs D2)
    | ok ys =>
      obtain ⟨ds, ed, q⟩ := h1
      cases ed
      have hlen : ys.length ≤ sizeLine := Nat.le_trans (compL_len xs D1 ys D2 ec) hJ.1
      rw [compL_eq] at ec
      refine lc_run (g := L.g) (F1 := F1) (H1 := H1) (Fj := F1) (F' := F1) (Di := D1) (acc := []) (yacc := []) hd hl (NT.of hp) (fun i F' H' D' r sj => hJ.2 i F' H' F1 H1 D' r sj fun _ => r) ?_ (r1.newO hp) (Same.refl _) upd_same (r1.ext.free hp) .nil ec (by simpa using hlen) fun F4 H4 acc4 r4 s4 hp4 hF4 ra4 => ?_
      · intro F' H' Di D3 x xv rs acc yacc Nx ri sj hx hf hpa hFa raa hz hN
        obtain ⟨o, d, h1, h2⟩ := M.bind_ok hf
        cases o with
        | exn => cases h2
        | ok r =>
          cases h2
          exact el_body (g0 := gT L t) hd hl (NT.of hp) (fun i hi => hi) r1 ri (s1.grow ri) hx (noex_ok h1) hpa hFa raa hz hN
      · exact q F4 H4 p acc4 (p1.trans r4) hp4 ra4 hlen hF4 (p1.nt_of (NT.of hp)) hd hl
theorem cmp1_lst {t : IT} {it : II} {cond elt : IE} {S : BA.Env} {D : Dr} {v : PV} {D' : Dr} (ev : evE L.T (L.call n) (.cmp1 t it cond elt) S D = some (.ok v, D')) : ∃ ds, v = .lst ds := by
  rw [evE_cmp1] at ev
  obtain ⟨o, d, h1, h2⟩ := M.bind_ok ev
  cases o with
  | exn => cases h2
  | ok xs =>
    obtain ⟨o, d, h3, h4⟩ := M.bind_ok h2
    cases o with
    | exn => cases h4
    | ok ys => cases h4; exact ⟨ys, rfl⟩
theorem snd_cmp1 (t : IT) {it : II} {cond elt : IE} (ii : SndI L it) (ic : SndE L cond) (ie : SndE L elt) : SndE L (.cmp1 t it cond elt) := fun P n sc X W e c m => by
  rw [mE_cmp1] at m
  split at m
  · rename_i x tg iter ifs k scope pos
    simp only [Bool.and_eq_true, decide_eq_true_eq, Bool.not_eq_true'] at m
    obtain ⟨⟨⟨⟨⟨⟨⟨⟨⟨rfl, m2⟩, m3⟩, m4⟩, m5⟩, m6⟩, m7⟩, m8⟩, m9⟩, m10⟩ := m
    have hb := fun (s : Shared) (H : Hp) (C : Addr) (cl : List (Str × Addr)) (fp : List Addr) => c.blk m9 s H C cl fp
    have hp : PE X (.ListComp x [⟨tg, iter, ifs, 0⟩] scope pos) (tLc (tI L n W (!true) it) (gT L t) (tC1 L n E0 cond) (tE L n E0 elt) ((ownOf P.N t.slots).map (·.2))) := by
      refine pe_lc c.calm (by rw [c.N]; exact c.nd) (ii P n sc X W true tg iter c m2) (by rw [c.N, c.scope]; exact blkOk_by m4) (fun s H C cl fp => ?_) (fun s H C cl fp => ?_) (fun s H C cl fp => ?_) (noset_fold m3 _)
      · exact pg_T (P := P) (hb s H C cl fp).K (hb s H C cl fp).N c.nd (hb s H C cl fp).calm (hb s H C cl fp).scope t tg (slots_fn c.scope m10) m5
      · exact pts_of ic (hb s H C cl fp) m6
      · exact (ie _ n _ _ E0 x (hb s H C cl fp) m7).pe m8
    rw [ownOf_slots] at hp
    have hO : PE X (.ListComp x [⟨tg, iter, ifs, 0⟩] scope pos) (tO L n W (.cmp1 t it cond elt)) := hp.imp fun σ H Q h => cmp1_tlc h
    exact .of (hO.imp fun σ H Q h => tO_of_tE (fun S D v D' ev => cmp1_lst ev) h) rfl fun _ => hO
  · cases m
/-- one item's turn, two clauses -/
def elM2 (T : Tab) (call : Nat → List PV → M PV) (t : IT) (cond : IE) (u : IT) (iu : II) (cu elt : IE) (S : BA.Env) (x : PV) : M (List PV) := M.lift (bindT t x S) >>= fun S' => condM T call cond S' >>= fun c =>
  if c = true then evI T call iu S' >>= fun ys => compL (fun y => elM T call u cu elt (wipeE S' u.slots) y) ys else pure []
theorem elM2_ok {T : Tab} {call : Nat → List PV → M PV} {t u : IT} {iu : II} {cond cu elt : IE} {S : BA.Env} {x : PV} {D D3 : Dr} {rs : List PV} (h : elM2 T call t cond u iu cu elt S x D = some (.ok rs, D3)) :
    ∃ S', bindT t x S = some S' ∧ ∃ b D4, condM T call cond S' D = some (.ok b, D4) ∧ ((b = true ∧ ∃ ys D5, evI T call iu S' D4 = some (.ok ys, D5) ∧ compL (fun y => elM T call u cu elt (wipeE S' u.slots) y) ys D5 = some (.ok rs, D3)) ∨ (b = false ∧ rs = [] ∧ D4 = D3)) := by
  unfold elM2 at h
  cases e : bindT t x S with
  | none => rw [e] at h; cases h
  | some S' =>
    rw [e] at h
    have h : (condM T call cond S' >>= fun c => if c = true then evI T call iu S' >>= fun ys => compL (fun y => elM T call u cu elt (wipeE S' u.slots) y) ys else pure []) D = some (.ok rs, D3) := h
    obtain ⟨o, D4, h1, h2⟩ := M.bind_ok h
    cases o with
    | exn => cases h2
    | ok b =>
      refine ⟨S', rfl, b, D4, h1, ?_⟩
      cases b with
      | true =>
        simp only [if_true] at h2
        obtain ⟨o, D5, h3, h4⟩ := M.bind_ok (m := evI T call iu S') h2
        cases o with
        | exn => cases h4
        | ok ys => exact .inl ⟨rfl, ys, D5, h3, h4⟩
      | false =>
        cases h2
        exact .inr ⟨rfl, rfl, rfl⟩
theorem cmp2_tlc {t u : IT} {it iu : II} {cond cu elt : IE} {σ : L2.St} {H : Hp} {Q : VK} (h : tO L n W (.cmp2 t it cond u iu cu elt) σ H Q) : tLc2 (tI L n W (!true) it) (gT L t) (tC1 L n E0 cond) (tI L n E0 (!false) iu) (gT L u) (tC1 L n E0 cu) (tE L n E0 elt) (t.slots ++ u.slots) u.slots σ H Q := by
  obtain ⟨F0, H0, F, S, D, r, s, h⟩ := h
  rw [evE_cmp2] at h
  refine stepI r s h fun F1 H1 J xs D1 r1 p1 s1 hJ h1 p hp => ?_
  obtain ⟨hd, hl⟩ := r1.not_dl hp
  generalize hvs : t.slots ++ u.slots = vs at h1
  have e0 : (fun x => M.noex (M.lift (bindT t x (wipeE S vs)) >>= fun S' => (if cond.isNil = true then pure true else evE L.T (L.call n) cond S' >>= fun v => M.lift (truV v)) >>= fun c => if c = true then evI L.T (L.call n) iu S' >>= fun ys => compL (fun y => M.lift (bindT u y (wipeE S' u.slots)) >>= fun S'' =>
    (if cu.isNil = true then pure true else evE L.T (L.call n) cu S'' >>= fun v => M.lift (truV v)) >>= fun c => if c = true then evE L.T (L.call n) elt S'' >>= fun v => pure (some v) else pure none) ys else pure [])) = fun x => M.noex (elM2 L.T (L.call n) t cond u iu cu elt (wipeE S vs) x) := rfl
  rw [e0] at h1
  cases ec : compLL (fun x => M.noex (elM2 L.T (L.call n) t cond u iu cu elt (wipeE S vs) x)) xs D1 with
  | none => rw [M.bind_eq, ec] at h1; exact h1.elim
  | some q =>
    obtain ⟨o, D2⟩ := q
    rw [M.bind_eq, ec] at h1
    cases o with
    | exn k fs => exact absurd ec (compLL_noex (fun x D c fs D' h => noex_no h) xs D1 k fs D2)
    | ok ys =>
      obtain ⟨v, ev, ds, ed, q⟩ := PostM.lift h1
      split at ev
      · rename_i hlen
        cases ev
        cases ed
        refine lc_run (g := L.g) (F1 := F1) (H1 := H1) (Fj := F1) (F' := F1) (Di := D1) (acc := []) (yacc := []) hd hl (NT.of hp) (fun i F' H' D' r sj => hJ.2 i F' H' F1 H1 D' r sj fun _ => r) ?_ (r1.newO hp) (Same.refl _) upd_same (r1.ext.free hp) .nil ec (by simpa using hlen) fun F4 H4 acc4 r4 s4 hp4 hF4 ra4 => ?_
        · intro F' H' Di D3 x xv rs acc yacc Nx ri sj hx hf hpa hFa raa hz hN
          obtain ⟨S', hbd, b, D4, e1, e2⟩ := elM2_ok (noex_ok hf)
          have s' := s1.grow ri
          refine ⟨H0, F', wipeE S vs, x, S', ri.ext, s'.wiped vs, hx, hbd, fun σ2 hsl hlen2 hq => ⟨wipe_same (hlen2.trans (wipe_length _ _)) fun i hi => hq i fun z => hi (by rw [← hvs]; exact List.mem_append_left _ z), F0, H0, F', S', Di, r1.trans ri, hsl F' H' (Same.refl _) (s'.wiped vs), ?_⟩⟩
          have sl2 := hsl F' H' (Same.refl _) (s'.wiped vs)
          rw [e1]
          intro F3 H3 p3
          have sl3 := sl2.grow p3
          obtain ⟨hp3, hF3⟩ := p3.accs hFa hpa hd hl
          rcases e2 with ⟨rfl, zs, D5, e3, e4⟩ | ⟨rfl, rfl, rfl⟩
          · simp only [if_true]
            refine ⟨F0, H0, F3, S', D4, (r1.trans ri).trans p3, sl3, ?_⟩
            rw [e3]
            intro F4 H4 J1 p4 hJ1
            have sl4 := sl3.grow p4
            obtain ⟨hp4, hF4⟩ := p4.accs hF3 hp3 hd hl
            have r4 := (ri.trans p3).trans p4
            rw [compL_eq] at e4
            refine lc_run (g := L.g) (F1 := F1) (H1 := H1) (Fj := F4) (F' := F4) (Di := D5) (acc := acc) (yacc := yacc) hd hl (NT.of hp) (fun i F' H' D' r sj => hJ1.2 i F' H' F1 H1 D' r sj fun z => nomatch z) ?_ r4 (Same.refl _) hp4 hF4 (raa.mono (p3.f0.trans p4.f0)) e4 hz fun F6 H6 acc6 r6 s6 hp6 hF6 ra6 => hN F6 H6 acc6 r6 ((p3.f0.trans p4.f0).trans s6) hp6 hF6 ra6
            intro F' H' Di D3 x xv rs acc yacc Nx ri sj hx hf hpa hFa raa hz hN
            obtain ⟨o, d, h1, h2⟩ := M.bind_ok hf
            cases o with
            | exn => cases h2
            | ok r =>
              cases h2
              have sl : SL L.g H0 F' H' σ2 S' := hsl F' H' ((p3.f0.trans p4.f0).trans sj) ((s1.grow ri).wiped vs)
              exact el_body (g0 := gT L u) hd hl (NT.of hp) (fun i hi => hi) r1 ri sl hx h1 hpa hFa raa hz hN
          · simp only [Bool.false_eq_true, if_false]
            exact hN F3 H3 acc (ri.trans p3) p3.f0 hp3 hF3 (by simpa using raa.mono p3.f0)
        · exact q F4 H4 p acc4 (p1.trans r4) hp4 ra4 hlen hF4 (p1.nt_of (NT.of hp)) hd hl
      · cases ev
theorem cmp2_lst {t u : IT} {it iu : II} {cond cu elt : IE} {S : BA.Env} {D : Dr} {v : PV} {D' : Dr} (ev : evE L.T (L.call n) (.cmp2 t it cond u iu cu elt) S D = some (.ok v, D')) : ∃ ds, v = .lst ds := by
  rw [evE_cmp2] at ev
  obtain ⟨o, d, h1, h2⟩ := M.bind_ok ev
  cases o with
  | exn => cases h2
  | ok xs =>
    obtain ⟨o, d, h3, h4⟩ := M.bind_ok h2
    cases o with
    | exn => cases h4
    | ok ys =>
      have h4 : (M.lift (if ys.length ≤ sizeLine then some (PV.lst ys) else none)) d = some (.ok v, D') := h4
      split at h4
      · cases h4; exact ⟨ys, rfl⟩
      · cases h4
theorem snd_cmp2 (t : IT) {it : II} {cond : IE} (u : IT) {iu : II} {cu elt : IE} (ii : SndI L it) (ic : SndE L cond) (iiu : SndI L iu) (icu : SndE L cu) (ie : SndE L elt) : SndE L (.cmp2 t it cond u iu cu elt) := fun P n sc X W e c m => by
  rw [mE_cmp2] at m
  split at m
  · rename_i x tg iter ifs k tg' iter' ifs' k' scope pos
    simp only [Bool.and_eq_true, decide_eq_true_eq, Bool.not_eq_true'] at m
    obtain ⟨⟨⟨⟨⟨⟨⟨⟨⟨⟨⟨⟨⟨⟨rfl, rfl⟩, m2⟩, m3⟩, m3'⟩, m4⟩, m5⟩, m5'⟩, m2'⟩, m6⟩, m6'⟩, m7⟩, m8⟩, m9⟩, m10⟩ := m
    have hb := fun (s : Shared) (H : Hp) (C : Addr) (cl : List (Str × Addr)) (fp : List Addr) => c.blk m9 s H C cl fp
    have hf := fun (s : Shared) (H : Hp) (C : Addr) (cl : List (Str × Addr)) (fp : List Addr) => slots_fn (X := X) (N := P.N) (s := s) (H := H) (C := C) (cl := cl) (fp := fp) c.scope m10
    have hp : PE X (.ListComp x [⟨tg, iter, ifs, 0⟩, ⟨tg', iter', ifs', 0⟩] scope pos) (tLc2 (tI L n W (!true) it) (gT L t) (tC1 L n E0 cond) (tI L n E0 (!false) iu) (gT L u) (tC1 L n E0 cu) (tE L n E0 elt) ((ownOf P.N (t.slots ++ u.slots)).map (·.2)) u.slots) := by
      refine pe_lc2 c.calm (by rw [c.N]; exact c.nd) (ii P n sc X W true tg iter c m2) (by rw [c.N, c.scope]; exact blkOk_by m4) (by rw [ownOf_slots]; exact fun i hi => List.mem_append_right _ hi) (fun s H C cl fp => ?_) (fun s H C cl fp => ?_) (fun s H C cl fp => ?_) (fun s H C cl fp => ?_) (fun s H C cl fp => ?_) (fun s H C cl fp => ?_) (noset_fold m3 _) (fun env => noset_fold m3' env)
      · exact pg_T (P := P) (hb s H C cl fp).K (hb s H C cl fp).N c.nd (hb s H C cl fp).calm (hb s H C cl fp).scope t tg (fun i hi => hf s H C cl fp i (List.mem_append_left _ hi)) m5
      · exact pts_of ic (hb s H C cl fp) m6
      · exact iiu _ n _ _ E0 false tg' iter' (hb s H C cl fp) m2'
      · exact pg_T (P := P) (hb s H C cl fp).K (hb s H C cl fp).N c.nd (hb s H C cl fp).calm (hb s H C cl fp).scope u tg' (fun i hi => hf s H C cl fp i (List.mem_append_right _ hi)) m5'
      · exact pts_of icu (hb s H C cl fp) m6'
      · exact (ie _ n _ _ E0 x (hb s H C cl fp) m7).pe m8
    rw [ownOf_slots] at hp
    have hO : PE X (.ListComp x [⟨tg, iter, ifs, 0⟩, ⟨tg', iter', ifs', 0⟩] scope pos) (tO L n W (.cmp2 t it cond u iu cu elt)) := hp.imp fun σ H Q h => cmp2_tlc h
    exact .of (hO.imp fun σ H Q h => tO_of_tE (fun S D v D' ev => cmp2_lst ev) h) rfl fun _ => hO
  · cases m
end
end BA
/-! BaSndE9 -/
set_option linter.all false
set_option maxRecDepth 100000
set_option maxHeartbeats 1000000
/-! BaSndE9: _law_caught(lambda: e). -/
namespace BA
open PySem PySem.Spec PyProof.Rows L2 LamX
section
variable {X : Cx} {pins : List (Addr × Obj)} {σ : L2.St} {H : Hp} {s : Shared}
/-- an exception object is known from now on -/
theorem Inv.track {a : Addr} {oe : Obj} {vs : Array Value} {cls : Value} {od : Option Addr} (I : Inv X pins σ H s) (ha : s.heap.get? a = some oe) (hz : Zc cls od oe) (hd : oe.data = .fields vs) (na : H a = none)
    (new : X.s_0.heap.get? a = none) (nL : a ≠ X.env.locals) (nP : ∀ p ∈ X.pn ++ pins, p.1 ≠ a) : Inv X pins σ (upd H a (ExK cls od a)) s where
  ok := I.ok
  os := I.os
  bare := I.bare
  base := ⟨I.base.keep, I.base.slot, fun b o e n hx => by
      have hb : b ≠ a := by rintro rfl; rw [new] at e; cases e
      rw [upd_ne hb]; exact I.base.free b o e n hx, I.base.there,
    fun b xs q => by
      have h := I.base.tups b xs q
      rw [upd_ne (ne_of_none h na)]; exact h,
    fun b o u q => by
      have h := I.base.frzs b o u q
      rw [upd_ne (ne_of_none h na)]; exact h,
    fun b ps q => by
      obtain ⟨m, h⟩ := I.base.tbls b ps q
      exact ⟨m, by rw [upd_ne (ne_of_none h na)]; exact h⟩⟩
  loc := I.loc
  cell := I.cell
  free := by rw [upd_ne (Ne.symm nL)]; exact I.free
  freeC := fun x c e => by
    have hc : c ≠ a := by
      rintro rfl
      obtain ⟨v, o, ho, hod⟩ := I.cell x c e
      rw [ha] at ho; cases ho
      rw [hd] at hod; cases hod
    rw [upd_ne hc]; exact I.freeC x c e
  pin := fun p hp => by
    obtain ⟨h1, h2, h3⟩ := I.pin p hp
    exact ⟨h1, by rw [upd_ne (nP p hp)]; exact h2, h3⟩
  hok := fun b u e => by
    by_cases hb : b = a
    · subst hb
      rw [upd_same] at e
      cases e
      exact ⟨⟨oe, vs, ha, hz, hd⟩, ⟨oe, ha⟩, fun h1 h2 ⟨o, v, k1, k2, k3⟩ k => ⟨o, v, k o k1, k2, k3⟩⟩
    · rw [upd_ne hb] at e
      exact (I.hok b u e).stay (fun c v _ q => q) (fun c q => by rw [upd_ne (ne_of_none q na)]; exact q) fun c xs q => by rw [upd_ne (ne_of_none q na)]; exact q
  len := I.len
end
/-- what the clause 'except x as n' wishes, where the exception is known afterwards -/
def wAsK (K : PySem.W.Frag) (c : Value) (i : Nat) (ts : Addr → Value → Option Addr → TS) (Wout : WX) (D : Ends) : WX := fun cls d σ H =>
  ∃ b, PySem.W.exmOne K cls c = some b ∧ (b = true → ∀ a, H a = none → ts a cls d { nx := fun σ' H' => H' a = none → D.nx (σ'.set i none) (upd H' a (ExK cls d a)), rt := fun _ _ => False } (σ.set i (some (.ref a))) H) ∧
    (b = false → Wout cls d σ H)
section
variable {X : Cx} {x n : Str} {c : Value} {i : Nat} {body suite : List Stmt} {b₀ : Stmt} {np pos pos' : Pos} {tb : WX → TS} {ts : Addr → Value → Option Addr → TS} {Wout : WX}
theorem ps_try_K (hs : X.stack = X.env :: X.outer) (hf : X.env.frame = some X.env.locals) (hN : X.N.Nodup) (hi : X.N[i]? = some n) (hln : X.env.kindOf n = some .local) (hc : Names X x c) (tk : Takes X Wout) (hex : X.ex = []) 
    (hb : ∀ (W : WX) (pn : List (Addr × Obj)) (xe : Value → Shared → Prop), Takes (X.tr pn xe) W → PassesOwn (model X.prog X.w) X.A X.env xe → PSs (X.tr pn xe) body (tb W))
    (hsu : ∀ (a : Addr) (oe : Obj) (cls : Value) (d : Option Addr) (pn : List (Addr × Obj)), Zc cls d oe → (∃ vs, oe.data = .fields vs) → PSs (X.suite a ((a, oe) :: pn)) (b₀ :: suite) (ts a cls d)) :
    PS X (.Try body [.ExceptHandler (some (.Name x np)) (some n) (b₀ :: suite) pos'] [] [] pos) (fun D σ H => tb (wAsK X.K c i ts Wout D) D σ H) := by
  refine ⟨fun pins s σ H D I h => ?_⟩
  have ok := I.ok
  have hfr : X.A.frames = some (X.env :: X.outer) := by rw [ok.frames, hs]
  have hloc : Loc X.env.scope n := .inl hln
  refine wpAny_Try_except ?_
  refine wpAny_mono ((hb (wAsK X.K c i ts Wout D) (X.pn ++ pins) (fun e s₁ => wpAny (model X.prog X.w) X.A (noteFrame e X.env) (fun _ s₂ => wpAny (model X.prog X.w) X.A (setFlight e none) (fun _ s₃ =>
    wpAny (model X.prog X.w) X.A (handleBy e X.env [.ExceptHandler (some (.Name x np)) (some n) (b₀ :: suite) pos']) (SP X pins D) X.xe s₃) X.xe s₂) X.xe s₁) (fun u s' xx => ?_) PassesOwn.looking).run [] s σ H D (I.toTry _) h) (fun f s1 hsp => ?_) (fun e s1 he => he)
  · obtain ⟨a, B, sI, pins', σ', H', cls, d, rfl, J', nb, up, sky, na, os, ag, b, hb1, hyes, hno⟩ := xx
    have J : Inv X pins σ' H' sI := J'.ofTry ok
    have sky' : Sky B (X.env :: X.outer) a (Zc cls d) X.env.locals s'.heap := by rw [← hs]; exact sky
    show wpAny (model X.prog X.w) X.A (noteFrame (.ref a) X.env) _ _ _
    refine Sky.land Zc.steady hfr hf sky' fun h3 fl3 up3 => ?_
    have J3 : Inv X pins σ' H' { s' with heap := h3 } := J.landed nb fl3.1 (up.trans up3) os ag
    obtain ⟨oe3, vs3, he3, hz3, hd3⟩ := fl3.there
    have notFr : ∀ {h : Heap} {o : Obj} {vs : Array Value}, h.FunFrames B (X.env :: X.outer) → h.get? a = some o → o.data = .fields vs → a ∉ frs (X.env :: X.outer) := fun {h o vs} ff e dd hm => by
      obtain ⟨_, o', e', hnf⟩ := ff.mem hm
      rw [e] at e'; cases e'
      exact hnf _ dd
    have nfr := notFr fl3.2.2.1 he3 hd3
    have nL : a ≠ X.env.locals := fun z => nfr (List.mem_filterMap.mpr ⟨X.env, List.mem_cons_self, by rw [hf, z]⟩)
    have nF : a ∉ X.fs := fun hm => by
      obtain ⟨e, he, q⟩ := List.mem_filterMap.mp hm
      exact nfr (List.mem_filterMap.mpr ⟨e, List.mem_cons_of_mem _ he, q⟩)
    -- the exception is new
    have nI : sI.heap.get? a = none := by
      cases e : sI.heap.get? a with
      | none => rfl
      | some o =>
        have := nb a o e (by rw [hs]; exact nfr)
        rw [fl3.2.1] at this; cases this
    have new0 : X.s_0.heap.get? a = none := by
      cases e : X.s_0.heap.get? a with
      | none => rfl
      | some o =>
        obtain ⟨o', e'⟩ := J.base.there a o e (by rw [hex]; intro z; cases z)
        rw [nI] at e'; cases e'
    have nP : ∀ p ∈ X.pn ++ pins, p.1 ≠ a := fun p hp z => by
      have h1 := (J.pin p hp).1
      rw [z, nI] at h1; cases h1
    have S3 := J3.suite he3 hd3 na nL nF
    refine wpAny_handleBy_cons (codeAny_handlers_test ?_) (by intro q; cases q)
    have LT : PySem.W.Looks (model X.prog X.w) h3 (typeOf (.ref a)) cls := fun A Q E s k q => wpAny_typeOf_ref (k _ _ he3) (by rw [hz3.1]; exact q)
    have LM := PySem.W.exm_one (M := model X.prog X.w) (J3.kIn) LT hb1
    have test : ∀ {Q : Value → Shared → Prop} {E : Value → Shared → Prop}, Q c { s' with heap := h3 } → wpAny (model X.prog X.w) (X.A.mark (some (.ref a))) (eval (.Name x np) X.env) Q E { s' with heap := h3 } := fun {Q E} q => by
      obtain ⟨hg, hdbg, hm | ⟨hm, hv, hnn⟩⟩ := hc
      · exact ld_glob (X := X.suite a ((a, oe3) :: (X.pn ++ pins))) S3 hg hm q hdbg
      · exact ld_blt (X := X.suite a ((a, oe3) :: (X.pn ++ pins))) S3 hg hm hv q hnn hdbg
    refine test (LM.here ?_)
    cases b with
    | true =>
      refine codeAny_handlers_suite_as ?_
      refine HandSPX.lands_againZ fl3 fun h4 fl4 up4 => ?_
      have J4 : Inv X pins σ' H' { s' with heap := h4 } := J.landed nb fl4.1 ((up.trans up3).trans up4) os ag
      obtain ⟨oe4, vs4, he4, hz4, hd4⟩ := fl4.there
      have S4 := J4.suite he4 hd4 na nL nF
      refine store_ok (X := X.suite a ((a, oe4) :: (X.pn ++ pins))) (v := .ref a) S4 hN hi hloc rfl (fun s5 S5 => ?_) (.inr hln)
      refine wpAny_mono ((hsu a oe4 cls d (X.pn ++ pins) hz4 ⟨_, hd4⟩).run [] s5 _ H' _ S5 (hyes rfl a na)) (fun f s6 hsp => ?_) (fun _ _ z => False.elim z)
      cases f with
      | next =>
        obtain ⟨σ6, H6, S6, q6⟩ := hsp
        obtain ⟨pa, pn6, _⟩ := S6.pin (a, oe4) (List.mem_append_left _ List.mem_cons_self)
        exact gone_ok (Inv.track (S6.unsuite ok) pa hz4 hd4 pn6 new0 nL nP) hN hi hln fun s7 J7 => ⟨_, _, J7, q6 pn6⟩
      | brk =>
        obtain ⟨σ6, H6, S6, q6⟩ := hsp
        exact q6.elim
      | cont =>
        obtain ⟨σ6, H6, S6, q6⟩ := hsp
        exact q6.elim
      | ret u =>
        obtain ⟨v6, σ6, H6, S6, r6, q6⟩ := hsp
        exact q6.elim
    | false =>
      show wpAny _ X.A (handleBy (.ref a) X.env []) _ _ _
      refine wpAny_handleBy_nil ?_
      obtain ⟨k1, k2, k3, oe, vs, T, oT, ts', he, hz, hd, h1, hr⟩ := id fl3
      unfold PySem.passOn
      refine wpAny_bind (wpAny_field he hd h1 ?_)
      rw [if_neg (show ¬ ((Value.ref T == Value.none) = true) from by simp)]
      have fin : wpAny (model X.prog X.w) X.A (setFlight (.ref a) X.env.frame) (fun _ s4 => wpAny (model X.prog X.w) X.A (throw (.ref a) : Sem Flow) (SP X pins D) X.xe s4) X.xe { s' with heap := h3 } := by
        rw [hf]
        refine HandSPX.setFlight_upZ fl3 fun h4 hh4 up4 => wpAny_throw (tk _ _ ?_)
        exact ⟨a, B, sI, pins, σ', H', cls, d, rfl, J, nb, (up.trans up3).trans up4, .inr (.inr (by rw [hs]; exact hh4)), na, os, ag, hno rfl⟩
      first
        | exact wpAny_bind (wpAny_pure (wpAny_bind fin))
        | exact wpAny_bind fin
  · cases f with
    | next =>
      obtain ⟨σ', H', J', q⟩ := hsp
      exact wpAny_execs_nil ⟨σ', H', J'.ofTry ok, q⟩
    | brk =>
      obtain ⟨σ', H', J', q⟩ := hsp
      exact ⟨σ', H', J'.ofTry ok, q⟩
    | cont =>
      obtain ⟨σ', H', J', q⟩ := hsp
      exact ⟨σ', H', J'.ofTry ok, q⟩
    | ret u =>
      obtain ⟨v, σ', H', J', r, q⟩ := hsp
      exact ⟨v, σ', H', J'.ofTry ok, r, q⟩
end
theorem takes_len {X : Cx} {W : WX} (tk : Takes X W) : Takes X (fun c d σ H => σ.length = X.N.length → W c d σ H) := fun u s' ⟨a, B, sI, pins, σ, H, cls, d, e, I, nb, up, sky, na, os, ag, w⟩ =>
  tk u s' ⟨a, B, sI, pins, σ, H, cls, d, e, I, nb, up, sky, na, os, ag, w I.len⟩
/-- what _law_caught makes of a lambda's reading -/
def TTc (K : PySem.W.Frag) (CS : Addr) : (XK → Hp → VK → Prop) → Hp → VK → Prop := fun tl H Q =>
  tl (fun cls od H' => PySem.W.exmOne K cls (.ref CS) = some true ∧ ∀ a, H' a = none → Q (.ref a) (upd H' a (ExK cls od a))) H (fun _ H' => Q .non H')
theorem okN_d {a : Str} (h : okN a = true) : (a == ("__debug__" : Str)) = false ∧ (a == ("__classdict__" : Str)) = false := by
  simpa [okN] using h
theorem caught_gives {X : Cx} {Ng : List Str} {x a e ct sx q : Str} {sg : Scope} {g CS : Addr} {cdg : Value} {ie ic j : Nat} {p1 p2 p3 p4 p5 p6 p7 p8 p9 p10 p11 p12 p13 p14 : Pos}
    (hk : sg.kind = .function) (nd : Ng.Nodup) (hNe : Ng[ie]? = some e) (hNc : Ng[ic]? = some ct) (nec : ie ≠ ic) (ne0 : ie ≠ 0) (nc0 : ic ≠ 0) (hle : sg.names.lookup e = some .local) (hlc : sg.names.lookup ct = some .local)
    (oke : okN e = true) (okc : okN ct = true) (hgs : sg.names.lookup sx = some .globalImplicit) (oks : okN sx = true) (hms : X.mg sx = some (.ref CS)) (hst : ∀ f : Addr, ∃ r, L2.start Ng [V.ref f] = some (.ref f) :: r ∧ r.length + 1 = Ng.length) :
    GivesTo X Ng x sg g cdg (caughtBody a e ct sx j p1 p2 p3 p4 p5 p6 p7 p8 p9 p10 p11 p12 p13 p14) a q (TTc X.K CS) := by
  intro f c' s H Q tl act hc h
  have vc : Vis sg ct := .inl hlc
  have ve : Vis sg e := .inl hle
  obtain ⟨r0, hs0, hl0⟩ := hst f
  have z0 : (cxOf C8.CX0 X.prog X.w X.K X.mg X.base Ng x sg g cdg X.A X.stack s H C8.E0).nox.N.Nodup := nd
  have one := ps_set (X := (cxOf C8.CX0 X.prog X.w X.K X.mg X.base Ng x sg g cdg X.A X.stack s H C8.E0).nox) (pos := p3) (pos' := p1) (e := .Constant .none j p2) nd hNc (.inl hlc) pe_non
  have three : PS (cxOf C8.CX0 X.prog X.w X.K X.mg X.base Ng x sg g cdg X.A X.stack s H C8.E0).nox (.Return (some (.Name ct p13)) p14) (tRet (tVar ic)) := ps_ret (pe_var hNc vc (okN_d okc).1 (okN_d okc).2)
  have two := ps_try_K (X := (cxOf C8.CX0 X.prog X.w X.K X.mg X.base Ng x sg g cdg X.A X.stack s H C8.E0).nox) (c := .ref CS) (x := sx) (n := e) (i := ie) (np := p7) (pos := p12) (pos' := p11) (body := [.Expr (.Call (.Name a p4) [] [] p5) p6]) (b₀ := .Assign [.Name ct p8] (.Name e p9) p10) (suite := [])
    (ts := fun _ _ _ => tAsg (tVar ie) (gName ic)) (Wout := fun _ _ _ _ => False)
    (tb := fun W D σ H => ∃ Ech : XK, (∀ cls d (σ' : L2.St) H', Ech cls d H' → σ'.length = Ng.length → W cls d σ' H') ∧ σ[0]? = some (some (.ref f)) ∧ H c' = some (CodeO c' q) ∧ tl Ech H (fun _ H' => D.nx σ H'))
    rfl rfl nd hNe hle ⟨hgs, (okN_d oks).1, .inl hms⟩ LamX.takes0 rfl (fun W pn xe tk _ => ?_) (fun a oe cls d pn _ _ => pss_one (ps_set (X := Cx.suite _ a ((a, oe) :: pn)) (pos := p10) (pos' := p8) (e := .Name e p9) nd hNc (.inl hlc) (pe_var hNe ve (okN_d oke).1 (okN_d oke).2)))
  · refine ⟨_, pss_cons one (pss_cons two (pss_one three)), ?_⟩
    have hic : ic < (L2.start Ng [V.ref f]).length := by
      rw [hs0, List.length_cons, hl0]
      obtain ⟨h1, _⟩ := List.getElem?_eq_some_iff.mp hNc
      exact h1
    have hie : ie < (L2.start Ng [V.ref f]).length := by
      rw [hs0, List.length_cons, hl0]
      obtain ⟨h1, _⟩ := List.getElem?_eq_some_iff.mp hNe
      exact h1
    refine ⟨fun cls od H' => PySem.W.exmOne X.K cls (.ref CS) = some true ∧ ∀ a, H' a = none → Q (.ref a) (upd H' a (ExK cls od a)), fun cls d σ' H' ⟨e1, e2⟩ hl => ?_, ?_, hc, ?_⟩
    · have hi1 : ie < σ'.length := by rw [hl]; exact (List.getElem?_eq_some_iff.mp hNe).1
      have hi2 : ic < σ'.length := by rw [hl]; exact (List.getElem?_eq_some_iff.mp hNc).1
      refine ⟨true, e1, fun _ a na => ⟨.ref a, List.getElem?_set_self hi1, fun na' => ⟨.ref a, ?_, e2 a na⟩⟩, fun z => nomatch z⟩
      rw [List.getElem?_set_ne nec, List.getElem?_set_self (by rw [List.length_set]; exact hi2)]
    · rw [List.getElem?_set_ne nc0, hs0]
      rfl
    · show tl _ H fun x H' => tRet (tVar ic) _ _ H'
      have hfin : (fun (x : V) H' => tRet (tVar ic) { nx := fun x H' => Q V.non H', rt := Q } (List.set (L2.start Ng [V.ref f]) ic (some V.non)) H') = fun _ H' => ∃ v, (List.set (L2.start Ng [V.ref f]) ic (some V.non))[ic]? = some (some v) ∧ Q v H' := rfl
      rw [hfin, List.getElem?_set_self hic]
      have hfin2 : (fun (_ : V) H' => ∃ v, some (some V.non) = some (some v) ∧ Q v H') = fun _ H' => Q .non H' := by
        funext _ H'
        exact propext ⟨fun ⟨v, e, q⟩ => by cases e; exact q, fun q => ⟨_, rfl, q⟩⟩
      rw [hfin2]
      exact h
  · refine ⟨fun pins s' σ H' D I h' => ?_⟩
    obtain ⟨Ech, hW, h1, h2, h3⟩ := h'
    have hp := act _ pn xe Ech p4 p5 (takes_len tk) fun cls d σ' H' he hl => hW cls d σ' H' he hl
    have hq := pss_one (ps_expr (pos := p6) hp)
    exact hq.run pins s' σ H' D I ⟨h1, h2, h3⟩
theorem start_one (Ng : List Str) (a : Str) (h : Ng[0]? = some a) (f : Addr) : ∃ r, L2.start Ng [V.ref f] = some (.ref f) :: r ∧ r.length + 1 = Ng.length := by
  cases Ng with
  | nil => cases h
  | cons b Ng => exact ⟨_, rfl, by simp [L2.start]⟩
section
variable {L : LW} {P : MP} {n : Nat} {sc : Scope} {X : Cx} {W : XK} {e : Expr}
theorem CtxB.lam (c : CtxB L P n sc X W) {scope : Scope} (hk : scope.kind = .function) {A : Around} {outer : List PySem.Env} {s : Shared} {H : Hp} {E : XK} {f c' : Addr} (hr : Room (3 * n) (A.deeper (lamEnv X scope s.heap.objs.size f c'))) : CtxB L { P with lam := false } n scope (lamCx X A outer s H E scope f c') E :=
  ⟨c.law, c.clo, c.fns, c.nm, c.T, c.prog, c.w, c.K, c.mg, c.base, c.N, c.nd, rfl, rfl, hk, hr, takes_of rfl rfl rfl rfl, fun z => nomatch z⟩
theorem nopar {ps : Arguments} (h : noparB ps = true) : ps = ⟨[], [], none, [], [], none, []⟩ := by
  unfold noparB at h
  split at h
  · rfl
  · cases h
theorem snd_cau {a : IE} (ia : SndE L a) : SndE L (.cau a) := fun P n sc X W e c m => by
  rw [mE_cau] at m
  split at m
  · rename_i x p params b scope lpos pos
    simp only [Bool.and_eq_true, decide_eq_true_eq, Bool.not_eq_true'] at m
    obtain ⟨⟨⟨⟨⟨⟨m1, rfl⟩, m3⟩, m4⟩, m5⟩, m6⟩, m7⟩ := m
    obtain ⟨⟨g, CS, Ng, pg, sg, oc, dV, kV, doc, pm, cdv, ct, od, an, osl, an', en, cv, sx, ie, ic, j, p1, p2, p3, p4, p5, p6, p7, p8, p9, p10, p11, p12, p13, p14, h1, h2, h3, h4, h5, h6, h7, h8, h9, h10, h11, h12, h13, h14, h15, h16, h17, h18, h19, h20, h21, h22⟩, cc, pp, k1, k2, k3, k4, k5⟩ := c.lamc m1
    have LS : LamS X.env.scope scope := by rw [c.scope]; exact lamS_by m4
    have hp := pe_lamcall (X := X) (T := L.g.Tb) (TT := TTc X.K CS) (x := "_law_caught") (a := an') (g := g) (k := 3 * n) (pos := pos) (p := p) (lpos := lpos) (params := params) (body := b) (scope := scope) (t := fun E => tE L n E a) (c.gl m3) (by rw [c.mg]; exact h1) (by rw [c.K]; exact h2) (by rw [c.K]; exact h3) (by rw [c.K]; exact h4) (by rw [c.K]; exact h5) h6 h7 h8
      (caught_gives h6.kind h6.nd h9 h10 h11 h12 h13 h14 h15 h17 h18 h19 h20 (by rw [c.mg]; exact h21) (start_one Ng an' h7)) k1 k2 k3 k4 k5 LS (by rw [nopar m6]; rfl) (fun q cl pm cv ctv => by rw [nopar m6]; rfl)
      (fun A outer s H E f c' hr => (ia _ n scope _ E b (c.lam LS.kind hr) m5).pe m7) (by decide) (okN_d h16).1 (okN_d h16).2
    refine .of (hp.imp fun σ H Q h => ?_) rfl
    obtain ⟨F0, H0, F, S, D, r, s, h⟩ := h
    rw [evE_cau] at h
    refine ⟨r.tabs, fun H1 hx t1 => ?_⟩
    -- the lambda's own objects are not shared
    have rx : RB L.g F H F H1 D := {
      ext := fun b o e => hx b o (r.ext b o e) (fun ps z => r.nt b ps (by rw [e, z]))
      f0 := Same.refl _
      new := fun _ _ e => .inl e
      keep := fun b o e ht _ _ => hx b o e ht
      nt := r.nt
      tabs := t1
      dr := by
        obtain ⟨ne, fd, fl, hll, ⟨lc, hdd, hc⟩, z1, z2⟩ := r.dr
        exact ⟨ne, fd, fl, hx _ _ hll (fun ps z => by cases z), ⟨lc, hx _ _ hdd (fun ps z => by cases z), hc⟩, z1, z2⟩ }
    refine ⟨F0, H0, F, S, D, r.trans rx, s.grow rx, ?_⟩
    cases ev : evE L.T (L.call n) a S D with
    | none => simp only [ev] at h; exact h.elim
    | some o =>
      obtain ⟨o, D'⟩ := o
      simp only [ev] at h
      cases o with
      | ok v => exact fun F' H' x q _ => h F' H' .non (rx.trans q) .non
      | exn k fs =>
        simp only at h
        split at h
        · rename_i hk
          intro F' H' od q ex
          refine ⟨by rw [c.K]; exact h22 k hk, fun ad hn => ?_⟩
          have q2 := q.newF hn (o := ExK (.ref (L.g.cA k)) od ad) (fun ps => ExK_ne_tbl)
          refine h _ _ (.ref ad) ((rx.trans q).trans q2) ?_
          rcases ex with ⟨rfl, rfl⟩ | ⟨dd, vs, rfl, e1, e2, e3⟩
          · exact .exn0 upd_same
          · have sn := same_new (H := F') (o := ExK (.ref (L.g.cA k)) (some dd) ad) (q.ext.free hn)
            exact .exn1 upd_same (sn _ _ e1) e2 (e3.mono sn)
        · exact h.elim
  · cases m
end
end BA
/-! BaSndD -/
set_option linter.all false
set_option maxRecDepth 100000
set_option maxHeartbeats 1000000
/-! BaSndD: the draw record: read, changed. -/
namespace BA
open PySem PySem.Spec PyProof.Rows L2 LamX
/-- the record's entries -/
def drK (g : GD) (lc : Addr) (D : Dr) : List (Key × V) := [(.inr "large", .ref g.l), (.inr "rest", .int D.rest), (.inr "cells", .ref lc), (.inr "turn", .int D.turn)]
theorem dr_large (g : GD) (lc : Addr) (D : Dr) : valV (drK g lc D) (.inr "large") = some (.ref g.l) := valV_pos rfl
theorem dr_rest (g : GD) (lc : Addr) (D : Dr) : valV (drK g lc D) (.inr "rest") = some (.int D.rest) := by
  unfold drK
  rw [valV_neg (show ¬ ((Sum.inr "large" : Key) = (Sum.inr "rest" : Key)) by decide), valV_pos rfl]
theorem dr_cells (g : GD) (lc : Addr) (D : Dr) : valV (drK g lc D) (.inr "cells") = some (.ref lc) := by
  unfold drK
  rw [valV_neg (show ¬ ((Sum.inr "large" : Key) = (Sum.inr "cells" : Key)) by decide), valV_neg (show ¬ ((Sum.inr "rest" : Key) = (Sum.inr "cells" : Key)) by decide), valV_pos rfl]
theorem dr_turn (g : GD) (lc : Addr) (D : Dr) : valV (drK g lc D) (.inr "turn") = some (.int D.turn) := by
  unfold drK
  rw [valV_neg (show ¬ ((Sum.inr "large" : Key) = (Sum.inr "turn" : Key)) by decide), valV_neg (show ¬ ((Sum.inr "rest" : Key) = (Sum.inr "turn" : Key)) by decide), valV_neg (show ¬ ((Sum.inr "cells" : Key) = (Sum.inr "turn" : Key)) by decide), valV_pos rfl]
theorem put_rest (g : GD) (lc : Addr) (D : Dr) (z : Int) : putK (drK g lc D) (.inr "rest") (.int z) = drK g lc { D with rest := z } := by
  unfold putK drK
  rw [if_pos (by simp)]
  simp only [List.map_cons, List.map_nil]
  rw [if_neg (by decide), if_pos trivial, if_neg (by decide), if_neg (by decide)]
theorem put_turn (g : GD) (lc : Addr) (D : Dr) (z : Int) : putK (drK g lc D) (.inr "turn") (.int z) = drK g lc { D with turn := z } := by
  unfold putK drK
  rw [if_pos (by simp)]
  simp only [List.map_cons, List.map_nil]
  rw [if_neg (by decide), if_neg (by decide), if_neg (by decide), if_pos trivial]
section
variable {L : LW} {P : MP} {n : Nat} {sc : Scope} {X : Cx} {W : XK} {e : Expr}
theorem drw_at {g : GD} {H0 F H : Hp} {σ : L2.St} {S : BA.Env} {i : Nat} (s : SL g H0 F H σ S) (h : S[i]? = some (.val .drw)) : σ[i]? = some (some (.ref g.d)) := by
  obtain ⟨x, h1, h2⟩ := s.sl i _ h
  cases h2
  exact h1
theorem drw_post {α : Type} {g : GD} {W : XK} {F H : Hp} {R : α → Dr → Prop} {S : BA.Env} {i : Nat} {m : M α} {D : Dr} (h : PostM g W F H R (drwM S i m D)) : S[i]? = some (.val .drw) ∧ PostM g W F H R (m D) := by
  unfold drwM at h
  cases e : S[i]? with
  | none => rw [e] at h; exact h.elim
  | some sv =>
    rw [e] at h
    cases sv with
    | val v =>
      cases v with
      | drw => exact ⟨rfl, h⟩
      | _ => exact h.elim
    | _ => exact h.elim
theorem dget {H : Hp} {a : Addr} {kvs : List (Key × V)} {v : V} (e : H a = some (.dK kvs)) (k : Str) (hv : valV kvs (.inr k) = some v) : DGet H a (.str k) (some v) := by
  rw [← hv]
  exact DGet.k (k := .inr k) e
theorem noSl_str {m : Str} {j : Nat} {p : Pos} : NoSl (.Constant (.str m) j p) := fun _ _ => rfl
theorem drv_pe (c : CtxB L P n sc X W) {i : Nat} {x : Str} {p : Pos} (h : (decide (P.N[i]? = some x) && visB sc x && okN x) = true) : PE X (.Name x p) (tVar i) := by
  simp only [Bool.and_eq_true, decide_eq_true_eq] at h
  exact pe_var (by rw [c.N]; exact h.1.1) (c.vis h.1.2) (okN_d h.2).1 (okN_d h.2).2
theorem snd_drd (t : Bool) (i : Nat) : SndE L (.drd t i) := fun P n sc X W e c m => by
  rw [mE_drd] at m
  split at m
  · rename_i x p1 k j p2 pos
    simp only [Bool.and_eq_true, decide_eq_true_eq] at m
    obtain ⟨⟨⟨m1, m2⟩, m3⟩, rfl⟩ := m
    refine .of ((pe_dget (by have := c.units; omega) (drv_pe (i := i) c (by simp [m1, m2, m3])) pe_str noSl_str).imp fun σ H Q h => ?_) rfl
    obtain ⟨F0, H0, F, S, D, r, s, h⟩ := h
    rw [evE_drd] at h
    obtain ⟨hd, h⟩ := drw_post h
    · obtain ⟨lc, e1, e2⟩ := r.dr.hd
      have q : Fin L.g F H D Q (.int (if t = true then D.turn else D.rest)) := h
      cases t with
      | true => exact ⟨_, drw_at s hd, _, _, rfl, dget e1 "turn" (dr_turn L.g lc D), q.now r (.int _)⟩
      | false => exact ⟨_, drw_at s hd, _, _, rfl, dget e1 "rest" (dr_rest L.g lc D), q.now r (.int _)⟩
  · cases m
theorem snd_dcl (i : Nat) : SndE L (.dcl i) := fun P n sc X W e c m => by
  rw [mE_dcl] at m
  split at m
  · rename_i x p1 k j p2 pos
    simp only [Bool.and_eq_true, decide_eq_true_eq] at m
    obtain ⟨⟨⟨m1, m2⟩, m3⟩, rfl⟩ := m
    refine .of ((pe_dget (by have := c.units; omega) (drv_pe (i := i) c (by simp [m1, m2, m3])) pe_str noSl_str).imp fun σ H Q h => ?_) rfl
    obtain ⟨F0, H0, F, S, D, r, s, h⟩ := h
    rw [evE_dcl] at h
    obtain ⟨hd, h⟩ := drw_post h
    · obtain ⟨lc, e1, e2⟩ := r.dr.hd
      have q : Fin L.g F H D Q (.lst (D.cells.map .int)) := h
      exact ⟨_, drw_at s hd, _, _, rfl, dget e1 "cells" (dr_cells L.g lc D), q.now r (.lst (.inl e2) (RepAll.ints _) (by rw [List.length_map]; exact r.dr.zc))⟩
  · cases m
theorem large_own {g : GD} {F0 H0 F H : Hp} {D : Dr} (r : RB g F0 H0 F H D) : OwnR g F H g.l (.lst (D.large.map .int)) := .lst r.dr.hl (RepAll.ints _) (by rw [List.length_map]; exact r.dr.zl)
/-- the great numbers, read -/
theorem brep_large {g : GD} {F0 H0 F H : Hp} {D : Dr} (r : RB g F0 H0 F H D) : ∃ xs, g.K = g.K ∧ H g.l = some (.lst xs) ∧ RepAll g F xs (D.large.map .int) := ⟨_, rfl, r.dr.hl, RepAll.ints _⟩
theorem snd_dpp (i : Nat) : SndE L (.dpp i) := fun P n sc X W e c m => by
  rw [mE_dpp] at m
  split at m
  · rename_i x p1 k j p2 p3 f ap z j2 p4 cp
    simp only [Bool.and_eq_true, decide_eq_true_eq] at m
    obtain ⟨⟨⟨⟨⟨⟨m1, m2⟩, m3⟩, rfl⟩, rfl⟩, rfl⟩, m7⟩ := m
    have pd := pe_dget (X := X) (pos := p3) (by have := c.units; omega) (drv_pe (i := i) (x := x) (p := p1) c (by simp [m1, m2, m3])) (pe_str (x := "large") (j := j) (pos := p2)) noSl_str
    refine .of ((pe_bm (X := X) (cpos := cp) F.plainAttrs_list F.slot_list_pop F.type_list_pop mt_popAt pd (pa_cons (pe_int (i := 0) (j := j2) (pos := p4)) pa_nil rfl) rfl (by rfl) (by rw [m7]; exact beq_self_eq_true _) rfl rfl).imp fun σ H Q h => ?_) rfl
    obtain ⟨F0, H0, F, S, D, r, s, h⟩ := h
    rw [evE_dpp] at h
    obtain ⟨hd, h⟩ := drw_post h
    · obtain ⟨lc, e1, e2⟩ := r.dr.hd
      cases el : D.large with
      | nil =>
        rw [el] at h
        exact h.elim
      | cons y ys =>
        rw [el] at h
        have q : Fin L.g F H { D with large := ys } Q (.int y) := h
        have hl := r.dr.hl
        rw [el] at hl
        refine ⟨_, drw_at s hd, _, _, rfl, dget e1 "large" (dr_large L.g lc D), .inl ⟨rfl, _, .of hl⟩, ?_⟩
        refine ⟨L.g.l, _, 0, 0, .int y, rfl, rfl, hl, by decide, by decide, ?_, rfl, ?_⟩
        · have : ((y :: ys).map V.int).length = ys.length + 1 := by simp
          rw [this]
          unfold seqIndex?
          simp
        · have e3 : ((y :: ys).map V.int).eraseIdx 0 = ys.map V.int := rfl
          rw [e3]
          refine q F _ _ ?_ (.int _)
          obtain ⟨ne, fd, fl, hll, _, z1, z2⟩ := r.dr
          exact {
            ext := fun b o eb => by
              rw [upd_ne]
              · exact r.ext b o eb
              · rintro rfl; rw [fl] at eb; cases eb
            f0 := Same.refl _
            new := fun b o eb => .inl eb
            keep := fun b o eb ht h1 h2 => by rw [upd_ne h2]; exact eb
            nt := r.nt
            tabs := fun q hq => by
              obtain ⟨ps, k1, k2, k3⟩ := r.tabs q hq
              refine ⟨ps, ?_, k2, fun pos cv hc => ?_⟩
              · rw [upd_ne]
                · exact k1
                · intro z; rw [z, hl] at k1; cases k1
              · obtain ⟨c', k4, k5⟩ := k3 pos cv hc
                refine ⟨c', k4, ?_⟩
                rw [upd_ne]
                · exact k5
                · intro z; rw [z, hl] at k5; cases k5
            dr := ⟨ne, fd, fl, upd_same, ⟨lc, by rw [upd_ne ne]; exact e1, e2⟩, by rw [el] at z1; exact Nat.le_of_succ_le z1, z2⟩ }
  · cases m
theorem eqv_nil (ns : List Int) : PyData.eqv (.list (ns.map .int)) (.list []) = ns.isEmpty := by
  cases ns <;> simp [PyData.eqv, PyData.eqvAll]
theorem toDs_ints : ∀ ns : List Int, PV.toDs (ns.map .int) = some (ns.map .int)
  | [] => rfl
  | n :: ns => by
    simp only [List.map_cons, PV.toDs, PV.toD, toDs_ints ns]
theorem snd_dne (i : Nat) : SndE L (.dne i) := fun P n sc X W e c m => by
  rw [mE_dne] at m
  split at m
  · rename_i x p1 k j p2 pos p p3 p4
    simp only [Bool.and_eq_true, decide_eq_true_eq] at m
    obtain ⟨⟨⟨⟨m1, m2⟩, m3⟩, rfl⟩, rfl⟩ := m
    have pd := pe_dget (X := X) (pos := pos) (by have := c.units; omega) (drv_pe (i := i) (x := x) (p := p1) c (by simp [m1, m2, m3])) (pe_str (x := "large") (j := j) (pos := p2)) noSl_str
    have pl : PE X (.List [] p3) (tLst tNil) := pe_lst pa_nil
    have key : ∀ {σ : L2.St} {H : Hp} {Q : VK}, tE L n W (.dne i) σ H Q → tOp (rCmp X.K .ne) (tDGet (tVar i) (tC (.str "large"))) (tLst tNil) σ H Q := fun {σ H Q} h => by
      obtain ⟨F0, H0, F, S, D, r, s, h⟩ := h
      rw [evE_dne] at h
      obtain ⟨hd, h⟩ := drw_post h
      · obtain ⟨lc, e1, e2⟩ := r.dr.hd
        have q : Fin L.g F H D Q (.bl (!D.large.isEmpty)) := h
        refine ⟨_, drw_at s hd, _, _, rfl, dget e1 "large" (dr_large L.g lc D), Nat.zero_le _, fun p hp => ?_⟩
        have r2 := r.newO (o := .lst []) hp
        rw [c.K]
        obtain ⟨h1, p1⟩ := (large_own (r.trans r2)).toDp (r.trans r2).ext (d := .list (D.large.map .int)) (by simp only [PV.toD, toDs_ints]; rfl)
        have h2 : Dp L.g.K (upd H p (.lst [])) (.ref p) (.list []) := .lst (.inl (.inl upd_same)) .nil
        refine .inr ⟨_, _, h1, h2, p1, rfl, Nat.le_trans (Nat.min_le_right _ _) (by decide), ?_⟩
        rw [if_pos rfl, eqv_nil]
        exact q F _ _ r2 (.bl _)
    refine .of2 ((pe_cmpR (op_cmp c.units .ne) pd pl rfl).imp fun σ H Q h => key h) ((pt_cmpR (op_cmp c.units .ne) pd pl rfl).imp fun σ H Q h => key (tT_val h)) rfl
  · cases m
end
end BA
/-! BaSndS1 -/
set_option linter.all false
set_option maxRecDepth 100000
set_option maxHeartbeats 1000000
/-! BaSndS1: every expression; the judgement of statements; slots that own. -/
namespace BA
open PySem PySem.Spec PyProof.Rows L2 LamX

/-! ### every expression -/
mutual
theorem soundE (L : LW) : ∀ ie : IE, SndE L ie
  | .var i => snd_var i
  | .bvar i => snd_bvar i
  | .cst v => snd_cst v
  | .glb k => snd_glb k
  | .tup as => snd_tup (soundA L as)
  | .tups as => snd_tups (soundA L as)
  | .lst as => snd_lst (soundA L as)
  | .bin o a b => snd_bin o (soundE L a) (soundE L b)
  | .neg a => snd_neg (soundE L a)
  | .cmp o a b => snd_cmp o (soundE L a) (soundE L b)
  | .chn o1 o2 a b c => snd_chn o1 o2 (soundE L a) (soundE L b) (soundE L c)
  | .not a => snd_not (soundE L a)
  | .and a b => snd_and (soundE L a) (soundE L b)
  | .or a b => snd_or (soundE L a) (soundE L b)
  | .ite c a b => snd_ite (soundE L c) (soundE L a) (soundE L b)
  | .ix a b => snd_ix (soundE L a) (soundE L b)
  | .slc a lo hi => snd_slc (soundE L a) (soundE L lo) (soundE L hi)
  | .nil => snd_nil
  | .fld a f => snd_fld f (soundE L a)
  | .cal f as => snd_cal f (soundA L as)
  | .calk f as ks => snd_calk f (soundA L as) (soundK L ks)
  | .prm p as => snd_prm p (soundA L as)
  | .isi a ts => snd_isi ts (soundE L a)
  | .mth m a b => snd_mth m (soundE L a) (soundE L b)
  | .lrng a => snd_lrng (soundE L a)
  | .cmp1 t it cond elt => snd_cmp1 t (soundI L it) (soundE L cond) (soundE L elt)
  | .cmp2 t it cond u iu cu elt => snd_cmp2 t u (soundI L it) (soundE L cond) (soundI L iu) (soundE L cu) (soundE L elt)
  | .rev a => snd_rev (soundE L a)
  | .cau a => snd_cau (soundE L a)
  | .drd t i => snd_drd t i
  | .dcl i => snd_dcl i
  | .dne i => snd_dne i
  | .dpp i => snd_dpp i
  | .nev => snd_nev
termination_by structural ie => ie
theorem soundA (L : LW) : ∀ as : IA, SndA L as
  | .nil => snda_nil
  | .cons a as => snda_cons (soundE L a) (soundA L as)
  | .star a as => snda_star (soundE L a) (soundA L as)
termination_by structural as => as
theorem soundK (L : LW) : ∀ as : IA, SndK L as
  | .nil => sndk_nil
  | .cons a as => sndk_cons (soundE L a) (soundK L as)
  | .star a as => sndk_star
termination_by structural as => as
theorem soundI (L : LW) : ∀ it : II, SndI L it
  | .seq a => sndi_seq (soundE L a)
  | .rng1 a => sndi_rng1 (soundE L a)
  | .rng2 a b => sndi_rng2 (soundE L a) (soundE L b)
  | .rng3 a b c => sndi_rng3 (soundE L a) (soundE L b) (soundE L c)
  | .enm a => sndi_enm (soundE L a)
  | .zip a b => sndi_zip (soundE L a) (soundE L b)
  | .chr a => sndi_chr (soundE L a)
termination_by structural it => it
end

/-! ### steps over the entry of a def -/
section
variable {L : LW} {n : Nat} {W : XK} {F0 H0 F H : Hp} {D : Dr} {S : BA.Env} {σ : L2.St} {α : Type} {R : α → Dr → Prop}
theorem stepE0 {ie : IE} {k : PV → M α} {Q : VK} (r : RB L.g F0 H0 F H D) (s : SL L.g H0 F H σ S) (h : PostM L.g W F0 H0 R ((evE L.T (L.call n) ie S >>= k) D))
    (q : ∀ F1 H1 x v D1, RB L.g F0 H0 F1 H1 D1 → RB L.g F H F1 H1 D1 → SL L.g H0 F1 H1 σ S → Rep L.g F1 x v → PostM L.g W F0 H0 R (k v D1) → Q x H1) : tE L n W ie σ H Q :=
  ⟨F0, H0, F, S, D, r, s, (h.bind.mono fun v D1 hv F1 H1 x p hx => q F1 H1 x v D1 (r.trans p) p (s.grow p) hx hv).shift r⟩
theorem stepT0 {ie : IE} {k : Bool → M α} {Q : Bool → Hp → Prop} (r : RB L.g F0 H0 F H D) (s : SL L.g H0 F H σ S) (h : PostM L.g W F0 H0 R ((evE L.T (L.call n) ie S >>= fun x => M.lift (truV x) >>= k) D))
    (q : ∀ F1 H1 b D1, RB L.g F0 H0 F1 H1 D1 → RB L.g F H F1 H1 D1 → SL L.g H0 F1 H1 σ S → PostM L.g W F0 H0 R (k b D1) → Q b H1) : tT L n W ie σ H Q := by
  rw [← M.bind_assoc] at h
  exact ⟨F0, H0, F, S, D, r, s, (h.bind.mono fun v D1 hv F1 H1 p => q F1 H1 v D1 (r.trans p) p (s.grow p) hv).shift r⟩
theorem stepI0 {strong : Bool} {it : II} {k : List PV → M α} {Q : It → Hp → Prop} (r : RB L.g F0 H0 F H D) (s : SL L.g H0 F H σ S) (h : PostM L.g W F0 H0 R ((evI L.T (L.call n) it S >>= k) D))
    (q : ∀ F1 H1 J xs D1, RB L.g F0 H0 F1 H1 D1 → RB L.g F H F1 H1 D1 → SL L.g H0 F1 H1 σ S → ItR strong L.g F1 H1 J xs → PostM L.g W F0 H0 R (k xs D1) → Q J H1) : tI L n W strong it σ H Q :=
  ⟨F0, H0, F, S, D, r, s, (h.bind.mono fun v D1 hv F1 H1 J p hx => q F1 H1 J v D1 (r.trans p) p (s.grow p) hx hv).shift r⟩
/-- a list that was made since H -/
def NewL (g : GD) (H F1 H1 : Hp) (x : V) (v : PV) : Prop := ∃ p xs ds, v = .lst ds ∧ x = .ref p ∧ H1 p = some (.lst xs) ∧ RepAll g F1 xs ds ∧ ds.length ≤ sizeLine ∧ F1 p = none ∧ NT H p ∧ p ≠ g.d ∧ p ≠ g.l
theorem NewL.grow {g : GD} {F1 H1 F2 H2 : Hp} {x : V} {v : PV} (p : RB g F1 H1 F2 H2 D) (h : NewL g H F1 H1 x v) : NewL g H F2 H2 x v := by
  obtain ⟨a, xs, ds, e1, e2, h1, ra, z, hF, nt, hd, hl⟩ := h
  obtain ⟨h2, hF2⟩ := p.accs hF h1 hd hl
  exact ⟨a, xs, ds, e1, e2, h2, ra.mono p.f0, z, hF2, nt, hd, hl⟩
def tY (o : Bool) (L : LW) (n : Nat) (W : XK) (ie : IE) : TE := if o = true then tO L n W ie else tE L n W ie
theorem stepY0 {o : Bool} {ie : IE} {k : SV → M α} {Q : VK} (r : RB L.g F0 H0 F H D) (s : SL L.g H0 F H σ S) (h : PostM L.g W F0 H0 R ((evE L.T (L.call n) ie S >>= fun v => M.lift (slotV o v) >>= k) D))
    (q : ∀ F1 H1 x v sv D1, RB L.g F0 H0 F1 H1 D1 → RB L.g F H F1 H1 D1 → SL L.g H0 F1 H1 σ S → ((o = true ∧ sv = .own v ∧ NewL L.g H F1 H1 x v) ∨ (o = false ∧ sv = .val v ∧ Rep L.g F1 x v)) → PostM L.g W F0 H0 R (k sv D1) → Q x H1) : tY o L n W ie σ H Q := by
  cases o with
  | true =>
    refine ⟨F0, H0, F, S, D, r, s, (h.bind.mono fun v D1 hv => ?_).shift r⟩
    obtain ⟨sv, es, h2⟩ := hv.bind.lift
    cases v with
    | lst ds =>
      cases es
      exact ⟨ds, rfl, fun F1 H1 p xs p1 hp ra z hF nt hd hl => q F1 H1 (.ref p) _ _ D1 (r.trans p1) p1 (s.grow p1) (.inl ⟨rfl, rfl, p, xs, ds, rfl, rfl, hp, ra, z, hF, nt, hd, hl⟩) h2⟩
    | _ => cases es
  | false =>
    refine ⟨F0, H0, F, S, D, r, s, (h.bind.mono fun v D1 hv F1 H1 x p hx => ?_).shift r⟩
    obtain ⟨sv, es, h2⟩ := hv.bind.lift
    cases es
    exact q F1 H1 x v _ D1 (r.trans p) p (s.grow p) (.inr ⟨rfl, rfl, hx⟩) h2
end

/-! ### slots -/
section
variable {g : GD} {F0 H0 F H F' H' : Hp} {D D' : Dr} {σ : L2.St} {S : BA.Env}
theorem SL.own {i : Nat} {x : V} {v : PV} (s : SL g H0 F H σ S) (hx : NewL g H F' H' x v) (h0 : ∀ p, NT H p → NT H0 p) (p : RB g F H F' H' D) : SL g H0 F' H' (σ.set i (some x)) (S.set i (.own v)) := by
  have s' := s.grow p
  obtain ⟨a, xs, ds, rfl, rfl, h1, ra, z, hF, nt, hd, hl⟩ := hx
  have far : ∀ {j : Nat} {w : PV} {b : Addr}, S[j]? = some (.own w) → σ[j]? = some (some (.ref b)) → b ≠ a := fun {j w b} e1 e2 => by
    obtain ⟨c, k1, k2, _⟩ := s.ow j w e1
    rw [k1] at e2
    cases e2
    obtain ⟨u, hu, hn⟩ := k2.there
    rintro rfl
    exact nt.no hu hn
  refine ⟨by rw [List.length_set, List.length_set]; exact s.len, fun j w e => ?_, fun j w e => ?_, fun j k b w u njk e1 e2 e3 => ?_⟩
  · rcases getset e with ⟨rfl, e2, hl⟩ | ⟨ne, e2⟩
    · cases e2
    · rw [List.getElem?_set_ne ne]; exact s'.sl j w e2
  · rcases getset e with ⟨rfl, e2, hli⟩ | ⟨ne, e2⟩
    · cases e2
      exact ⟨a, by rw [List.getElem?_set_self (by rw [s.len]; exact hli)], .lst h1 ra z, hF, h0 a nt, hd, hl⟩
    · rw [List.getElem?_set_ne ne]; exact s'.ow j w e2
  · rcases getset e1 with ⟨rfl, e4, hli⟩ | ⟨ne, e4⟩
    · rw [List.getElem?_set_self (by rw [s.len]; exact hli)] at e3
      cases e3
      rcases getset e2 with ⟨rfl, e5, _⟩ | ⟨ne2, e5⟩
      · exact absurd rfl njk
      · rw [List.getElem?_set_ne ne2]
        intro z
        exact far e5 z rfl
    · rw [List.getElem?_set_ne ne] at e3
      rcases getset e2 with ⟨rfl, e5, hli⟩ | ⟨ne2, e5⟩
      · rw [List.getElem?_set_self (by rw [s.len]; exact hli)]
        intro z
        cases z
        exact far e4 e3 rfl
      · rw [List.getElem?_set_ne ne2]
        exact s.ap j k b w u njk e4 e5 e3
/-- a list of one's own is changed -/
theorem SL.change {i : Nat} {a : Addr} {xs : List V} {ds es : List PV} (s : SL g H0 F H σ S) (hi : S[i]? = some (.own (.lst ds))) (ha : σ[i]? = some (some (.ref a))) (ra : RepAll g F xs es) (z : es.length ≤ sizeLine) : SL g H0 F (upd H a (.lst xs)) σ (S.set i (.own (.lst es))) where
  len := by rw [List.length_set]; exact s.len
  sl := fun j w e => by
    rcases getset e with ⟨rfl, e2, hl⟩ | ⟨ne, e2⟩
    · cases e2
    · exact s.sl j w e2
  ow := fun j w e => by
    rcases getset e with ⟨rfl, e2, hl⟩ | ⟨ne, e2⟩
    · cases e2
      obtain ⟨b, k1, k2, k3, k4, k5, k6⟩ := s.ow i _ hi
      rw [ha] at k1
      cases k1
      exact ⟨a, ha, .lst upd_same ra z, k3, k4, k5, k6⟩
    · obtain ⟨b, k1, k2, k3, k4, k5, k6⟩ := s.ow j w e2
      have hb : b ≠ a := by
        rintro rfl
        exact s.ap i j b _ _ ne hi e2 ha k1
      refine ⟨b, k1, ?_, k3, k4, k5, k6⟩
      cases k2 with
      | lst h r z => exact .lst (by rw [upd_ne hb]; exact h) r z
      | dct h r z => exact .dct (by rw [upd_ne hb]; exact h) r z
  ap := fun j k b w u njk e1 e2 e3 => by
    have back : ∀ {j : Nat} {w : PV}, (S.set i (.own (.lst es)))[j]? = some (.own w) → ∃ w', S[j]? = some (.own w') := fun {j w} e => by
      rcases getset e with ⟨rfl, e2, hl⟩ | ⟨ne, e2⟩
      · exact ⟨_, hi⟩
      · exact ⟨_, e2⟩
    obtain ⟨w1, e4⟩ := back e1
    obtain ⟨w2, e5⟩ := back e2
    exact s.ap j k b w1 w2 njk e4 e5 e3
/-- a list of one's own is shared from now on -/
theorem SL.share {i : Nat} {v : PV} (r : RB g F0 H0 F H D) (s : SL g H0 F H σ S) (hi : S[i]? = some (.own v)) : ∃ F', Same F F' ∧ RB g F0 H0 F' H D ∧ SL g H0 F' H σ (S.set i (.val v)) := by
  obtain ⟨a, k1, k2, k3, k4, k5, k6⟩ := s.ow i v hi
  obtain ⟨o, ho, hnt⟩ := k2.there
  refine ⟨upd F a o, same_new k3, r.share ho k4 k3 k5 k6 hnt, ?_⟩
  have sm : Same F (upd F a o) := same_new k3
  have rx : Rep g (upd F a o) (.ref a) v := by
    cases k2 with
    | lst h ra z => rw [h] at ho; cases ho; exact .lst (.inl upd_same) (ra.mono sm) z
    | dct h ra z => rw [h] at ho; cases ho; exact .dct upd_same (ra.mono sm) z
  refine ⟨by rw [List.length_set]; exact s.len, fun j w e => ?_, fun j w e => ?_, fun j k b w u njk e1 e2 e3 => ?_⟩
  · rcases getset e with ⟨rfl, e2, hl⟩ | ⟨ne, e2⟩
    · cases e2; exact ⟨_, k1, rx⟩
    · obtain ⟨x, h1, h2⟩ := s.sl j w e2
      exact ⟨x, h1, h2.mono sm⟩
  · rcases getset e with ⟨rfl, e2, hl⟩ | ⟨ne, e2⟩
    · cases e2
    · obtain ⟨b, q1, q2, q3, q4, q5, q6⟩ := s.ow j w e2
      have hb : b ≠ a := by
        rintro rfl
        exact s.ap i j b _ _ ne hi e2 k1 q1
      refine ⟨b, q1, ?_, by rw [upd_ne hb]; exact q3, q4, q5, q6⟩
      cases q2 with
      | lst h r z => exact .lst h (r.mono sm) z
      | dct h r z => exact .dct h (r.mono sm) z
  · rcases getset e1 with ⟨rfl, e4, hl⟩ | ⟨ne, e4⟩
    · cases e4
    · rcases getset e2 with ⟨rfl, e5, hl⟩ | ⟨ne2, e5⟩
      · cases e5
      · exact s.ap j k b w u njk e4 e5 e3
end
end BA
/-! BaSndS2 -/
set_option linter.all false
set_option maxRecDepth 100000
set_option maxHeartbeats 1000000
/-! BaSndS2: statements keep their meaning. -/
namespace BA
open PySem PySem.Spec PyProof.Rows L2 LamX
/-- the context of statements -/
structure CtxS (L : LW) (P : MP) (n : Nat) (sc : Scope) (X : Cx) (W : XK) : Prop extends CtxB L P n sc X W where
  fn : ∀ y, X.fn y = true
  pass : PassesOwn (model X.prog X.w) X.A X.env X.xe
/-- what is wanted behind -/
def FinS (g : GD) (F0 H0 F : Hp) (En : Ends) (fl : Fl) (D : Dr) : Prop := match fl with
  | .nx S' => ∀ F' H' σ', Same F F' → RB g F0 H0 F' H' D → SL g H0 F' H' σ' S' → En.nx σ' H'
  | .bk S' => ∀ F' H' σ', Same F F' → RB g F0 H0 F' H' D → SL g H0 F' H' σ' S' → En.bk σ' H'
  | .ct S' => ∀ F' H' σ', Same F F' → RB g F0 H0 F' H' D → SL g H0 F' H' σ' S' → En.ct σ' H'
  | .rt v => ∀ F' H' x, Same F F' → RB g F0 H0 F' H' D → Rep g F' x v → En.rt x H'
theorem FinS.grow {g : GD} {F0 H0 F F1 : Hp} {En : Ends} {fl : Fl} {D : Dr} (s : Same F F1) (h : FinS g F0 H0 F En fl D) : FinS g F0 H0 F1 En fl D := by
  cases fl with
  | nx S' => exact fun F' H' σ' e => h F' H' σ' (s.trans e)
  | bk S' => exact fun F' H' σ' e => h F' H' σ' (s.trans e)
  | ct S' => exact fun F' H' σ' e => h F' H' σ' (s.trans e)
  | rt v => exact fun F' H' x e => h F' H' x (s.trans e)
def tS (L : LW) (n : Nat) (W : XK) (s : IS) : TS := fun En σ H => ∃ F0 H0 F S D, RB L.g F0 H0 F H D ∧ SL L.g H0 F H σ S ∧ PostM L.g W F0 H0 (FinS L.g F0 H0 F En) (evS L.T (L.call n) s S D)
def tSs (L : LW) (n : Nat) (W : XK) (b : IB) : TS := fun En σ H => ∃ F0 H0 F S D, RB L.g F0 H0 F H D ∧ SL L.g H0 F H σ S ∧ PostM L.g W F0 H0 (FinS L.g F0 H0 F En) (evB L.T (L.call n) b S D)
theorem _root_.L2.PS.imp {X : Cx} {e : Stmt} {t t' : TS} (h : PS X e t) (i : ∀ D σ H, t' D σ H → t D σ H) : PS X e t' := ⟨fun pins s σ H D I q => h.run pins s σ H D I (i D σ H q)⟩
theorem _root_.L2.PSs.imp {X : Cx} {e : List Stmt} {t t' : TS} (h : PSs X e t) (i : ∀ D σ H, t' D σ H → t D σ H) : PSs X e t' := ⟨fun pins s σ H D I q => h.run pins s σ H D I (i D σ H q)⟩
theorem _root_.L2.PG.imp {X : Cx} {e : Expr} {t t' : TG} (h : PG X e t) (i : ∀ v σ H Q, t' v σ H Q → t v σ H Q) : PG X e t' := ⟨fun pins s σ H v u Q I r q => h.run pins s σ H v u Q I r (i v σ H Q q)⟩
def SndS (L : LW) (s : IS) : Prop := ∀ (P : MP) (n : Nat) (sc : Scope) (X : Cx) (W : XK) (st : Stmt), CtxS L P n sc X W → mS s P sc st = true → PS X st (tS L n W s)
def SndB (L : LW) (b : IB) : Prop := ∀ (P : MP) (n : Nat) (sc : Scope) (X : Cx) (W : XK) (sts : List Stmt), CtxS L P n sc X W → mB b P sc sts = true → PSs X sts (tSs L n W b)
section
variable {L : LW} {P : MP} {n : Nat} {sc : Scope} {X : Cx} {W : XK} {e : Expr}
theorem notcomp_sw {x : Expr} (h : compB x = false) (t : Option Expr) (l : Nat) (env : PySem.Env) : swapsWith x t l env = pure false := by
  cases x with
  | ListComp => cases (show true = false from h)
  | SetComp => cases (show true = false from h)
  | DictComp => cases (show true = false from h)
  | _ => rfl
theorem CtxS.loc (c : CtxS L P n sc X W) {x : Str} (h : locB sc x = true) : Loc X.env.scope x := by
  rw [c.scope]
  simp only [locB, Bool.or_eq_true, decide_eq_true_eq] at h
  exact h
theorem ps_dead {X : Cx} {st : Stmt} {t : TS} (h : ∀ D σ H, ¬ t D σ H) : PS X st t := ⟨fun _ _ σ H D _ q => (h D σ H q).elim⟩
theorem nev_dead {Q : VK} {σ : L2.St} {H : Hp} : ¬ tE L n W .nev σ H Q := fun ⟨_, _, _, _, _, _, _, h⟩ => h.elim
theorem nevO_dead {Q : VK} {σ : L2.St} {H : Hp} : ¬ tO L n W .nev σ H Q := fun ⟨_, _, _, _, _, _, _, h⟩ => h.elim
/-- a comprehension that is stored at once -/
theorem set_comp (c : CtxS L P n sc X W) {i : Nat} {y : Str} {py pos : Pos} {x : Expr} {ie : IE} (hi : P.N[i]? = some y) (m : mE ie P sc x = true) (hc : compB x = true) (hs : compStB sc y py x = true) : PS X (.Assign [.Name y py] x pos) (tAsg (tO L n W ie) (gName i)) := by
  cases x with
  | ListComp elt gs scope cpos =>
    have hs : (decide (sc.names.lookup y = some .local) && (py.line == cpos.line) && !(scope.names.any fun (n, k) => n == y && (k == .local || k == .cell))) = true := hs
    simp only [Bool.and_eq_true, decide_eq_true_eq, Bool.not_eq_true'] at hs
    obtain ⟨⟨s1, s2⟩, s3⟩ := hs
    have hyl : X.env.scope.names.lookup y = some .local := by rw [c.scope]; exact s1
    have hi' : X.N[i]? = some y := by rw [c.N]; exact hi
    have hnd : X.N.Nodup := by rw [c.N]; exact c.nd
    have hk : X.env.scope.kind = .function := by rw [c.scope]; exact c.kind
    cases ie with
    | cmp1 t it cond el =>
      rw [mE_cmp1] at m
      split at m
      · rename_i x tg iter ifs k scope' pos' he
        cases he
        simp only [Bool.and_eq_true, decide_eq_true_eq, Bool.not_eq_true'] at m
        obtain ⟨⟨⟨⟨⟨⟨⟨⟨⟨rfl, m2⟩, m3⟩, m4⟩, m5⟩, m6⟩, m7⟩, m8⟩, m9⟩, m10⟩ := m
        have hb := fun (s : Shared) (H : Hp) (C : Addr) (cl : List (Str × Addr)) (fp : List Addr) => c.blk m9 s H C cl fp
        have hp : PS X (.Assign [.Name y py] (.ListComp elt [⟨tg, iter, ifs, 0⟩] scope cpos) pos) (tAsg (tLc (tI L n W (!true) it) (gT L t) (tC1 L n E0 cond) (tE L n E0 el) ((ownOf P.N t.slots).map (·.2))) (gName i)) := by
          refine ps_setLc c.calm hnd hi' hyl (sw_true hk hyl s2 s3) (soundI L it P n sc X W true tg iter c.toCtxB m2) (by rw [c.N, c.scope]; exact blkOk_by m4) (fun s H C cl fp => ?_) (fun s H C cl fp => ?_) (fun s H C cl fp => ?_) (noset_fold m3 _)
          · exact pg_T (P := P) (hb s H C cl fp).K (hb s H C cl fp).N c.nd (hb s H C cl fp).calm (hb s H C cl fp).scope t tg (slots_fn c.scope m10) m5
          · exact pts_of (soundE L cond) (hb s H C cl fp) m6
          · exact (soundE L el _ n _ _ E0 elt (hb s H C cl fp) m7).pe m8
        rw [ownOf_slots] at hp
        exact hp.imp fun D σ H h => cmp1_tlc h
      · cases m
    | cmp2 t it cond u iu cu el =>
      rw [mE_cmp2] at m
      split at m
      · rename_i x tg iter ifs k tg' iter' ifs' k' scope' pos' he
        cases he
        simp only [Bool.and_eq_true, decide_eq_true_eq, Bool.not_eq_true'] at m
        obtain ⟨⟨⟨⟨⟨⟨⟨⟨⟨⟨⟨⟨⟨⟨rfl, rfl⟩, m2⟩, m3⟩, m3'⟩, m4⟩, m5⟩, m5'⟩, m2'⟩, m6⟩, m6'⟩, m7⟩, m8⟩, m9⟩, m10⟩ := m
        have hb := fun (s : Shared) (H : Hp) (C : Addr) (cl : List (Str × Addr)) (fp : List Addr) => c.blk m9 s H C cl fp
        have hf := fun (s : Shared) (H : Hp) (C : Addr) (cl : List (Str × Addr)) (fp : List Addr) => slots_fn (X := X) (N := P.N) (s := s) (H := H) (C := C) (cl := cl) (fp := fp) c.scope m10
        have hp : PS X (.Assign [.Name y py] (.ListComp elt [⟨tg, iter, ifs, 0⟩, ⟨tg', iter', ifs', 0⟩] scope cpos) pos) (tAsg (tLc2 (tI L n W (!true) it) (gT L t) (tC1 L n E0 cond) (tI L n E0 (!false) iu) (gT L u) (tC1 L n E0 cu) (tE L n E0 el) ((ownOf P.N (t.slots ++ u.slots)).map (·.2)) u.slots) (gName i)) := by
          refine ps_setLc2 c.calm hnd hi' hyl (sw_true hk hyl s2 s3) (soundI L it P n sc X W true tg iter c.toCtxB m2) (by rw [c.N, c.scope]; exact blkOk_by m4) (by rw [ownOf_slots]; exact fun i hi => List.mem_append_right _ hi) (fun s H C cl fp => ?_) (fun s H C cl fp => ?_) (fun s H C cl fp => ?_) (fun s H C cl fp => ?_) (fun s H C cl fp => ?_) (fun s H C cl fp => ?_) (noset_fold m3 _) (fun env => noset_fold m3' env)
          · exact pg_T (P := P) (hb s H C cl fp).K (hb s H C cl fp).N c.nd (hb s H C cl fp).calm (hb s H C cl fp).scope t tg (fun i hi => hf s H C cl fp i (List.mem_append_left _ hi)) m5
          · exact pts_of (soundE L cond) (hb s H C cl fp) m6
          · exact soundI L iu _ n _ _ E0 false tg' iter' (hb s H C cl fp) m2'
          · exact pg_T (P := P) (hb s H C cl fp).K (hb s H C cl fp).N c.nd (hb s H C cl fp).calm (hb s H C cl fp).scope u tg' (fun i hi => hf s H C cl fp i (List.mem_append_right _ hi)) m5'
          · exact pts_of (soundE L cu) (hb s H C cl fp) m6'
          · exact (soundE L el _ n _ _ E0 elt (hb s H C cl fp) m7).pe m8
        rw [ownOf_slots] at hp
        exact hp.imp fun D σ H h => cmp2_tlc h
      · cases m
    | nev => exact ps_dead fun D σ H h => nevO_dead h
    | cst v => cases v <;> cases (show false = true from m)
    | _ => cases (show false = true from m)
  | SetComp => cases (show false = true from hs)
  | DictComp => cases (show false = true from hs)
  | _ => cases (show false = true from hc)
/-- a comprehension's value is a list -/
theorem comp_lst {ie : IE} {x : Expr} (m : mE ie P sc x = true) (hc : compB x = true) {S : BA.Env} {D : Dr} {v : PV} {D' : Dr} (ev : evE L.T (L.call n) ie S D = some (.ok v, D')) : ∃ ds, v = .lst ds := by
  cases ie with
  | cmp1 t it cond el => exact cmp1_lst ev
  | cmp2 t it cond u iu cu el => exact cmp2_lst ev
  | nev => cases ev
  | cst v => cases x <;> first | cases (show false = true from hc) | (cases v <;> cases (show false = true from m))
  | _ => cases x <;> first | cases (show false = true from hc) | cases (show false = true from m)
theorem set_e (c : CtxS L P n sc X W) {i : Nat} {y : Str} {py pos : Pos} {x : Expr} {ie : IE} (hi : P.N[i]? = some y) (hl : locB sc y = true) (m : mE ie P sc x = true) (nb : ie.isB = false) (hs : (!compB x || compStB sc y py x) = true) : PS X (.Assign [.Name y py] x pos) (tAsg (tE L n W ie) (gName i)) := by
  cases hc : compB x with
  | false => exact ps_set (by rw [c.N]; exact c.nd) (by rw [c.N]; exact hi) (c.loc hl) ((soundE L ie P n sc X W x c.toCtxB m).pe nb) (notcomp_sw hc _ _ _) (.inl (c.fn y))
  | true =>
    rw [hc] at hs
    exact (set_comp c hi m hc (by simpa using hs)).imp fun D σ H h => tO_of_tE (fun S D v D' ev => comp_lst m hc ev) h
theorem set_o (c : CtxS L P n sc X W) {i : Nat} {y : Str} {py pos : Pos} {x : Expr} {ie : IE} (hi : P.N[i]? = some y) (hl : locB sc y = true) (m : mE ie P sc x = true) (nf : ie.freshB = true) (hs : (!compB x || compStB sc y py x) = true) : PS X (.Assign [.Name y py] x pos) (tAsg (tO L n W ie) (gName i)) := by
  cases hc : compB x with
  | false => exact ps_set (by rw [c.N]; exact c.nd) (by rw [c.N]; exact hi) (c.loc hl) ((soundE L ie P n sc X W x c.toCtxB m).po nf) (notcomp_sw hc _ _ _) (.inl (c.fn y))
  | true =>
    rw [hc] at hs
    exact set_comp c hi m hc (by simpa using hs)
theorem snds_asg (t : IT) (ie : IE) : SndS L (.asg t ie) := fun P n sc X W st c m => by
  rw [mS_asg] at m
  split at m
  · rename_i tg x pos
    simp only [Bool.and_eq_true, Bool.not_eq_true'] at m
    obtain ⟨⟨⟨m1, m2⟩, m3⟩, m4⟩ := m
    have key : ∀ {D : Ends} {σ : L2.St} {H : Hp}, tS L n W (.asg t ie) D σ H → tAsg (tE L n W ie) (gT L t) D σ H := fun {En σ H} h => by
      obtain ⟨F0, H0, F, S, D, r, s, h⟩ := h
      rw [evS_asg] at h
      refine stepE0 r s h fun F1 H1 x v D1 r1 p s1 hx h1 => ?_
      obtain ⟨S', hb, h2⟩ := h1.bind.lift
      exact ⟨H0, F1, S, v, S', r1.ext, s1, hx, hb, fun σ' hsl hl hq => h2 F1 H1 σ' p.f0 r1 (hsl F1 H1 (Same.refl _) s1)⟩
    have pg := fun (hf : ∀ i ∈ t.slots, ∀ y, P.N[i]? = some y → X.fn y = true ∨ X.env.scope.names.lookup y = some .local) => pg_T (L := L) (P := P) c.K c.N c.nd c.calm c.scope t tg hf m3
    have pg' := pg fun i _ y _ => .inl (c.fn y)
    cases tg with
    | Name y py =>
      cases t with
      | nm i =>
        have m3' : (decide (P.N[i]? = some y) && locB sc y) = true := by simpa [mT] using m3
        simp only [Bool.and_eq_true, decide_eq_true_eq] at m3'
        refine (set_e c m3'.1 m3'.2 m1 m2 m4).imp fun D σ H h => ?_
        have h2 := key h
        obtain ⟨F0, H0, F, S, D', r, s, hp⟩ := h2
        refine ⟨F0, H0, F, S, D', r, s, hp.mono fun v D1 q F1 H1 x rr hx => ?_⟩
        obtain ⟨H0', F', S1, v1, S', hE, hS, hx', hb, q⟩ := q F1 H1 x rr hx
        simp only [bindT, Option.some.injEq] at hb
        subst hb
        refine q _ (fun F2 H2 e h => h.val (hx'.mono e)) (by rw [List.length_set]) fun j hj => ?_
        rw [List.getElem?_set_ne]
        rintro rfl
        exact hj (by simp [IT.slots])
      | tp ts => simp [mT] at m3
    | Tuple es k tpos =>
      simp only [Bool.and_eq_true, Bool.not_eq_true'] at m4
      refine (ps_asg ((soundE L ie P n sc X W x c.toCtxB m1).pe m2) pg' (by unfold swapsWithSole; exact notcomp_sw m4.1 _ _ _) ?_ rfl).imp fun D σ H h => key h
      cases x with
      | Tuple => cases (show false = true from m4.2)
      | List => cases (show false = true from m4.2)
      | _ => rfl
    | _ => cases (show false = true from m4)
  · cases m
theorem snds_own (i : Nat) (ie : IE) : SndS L (.own i ie) := fun P n sc X W st c m => by
  rw [mS_own] at m
  split at m
  · rename_i y py x pos
    simp only [Bool.and_eq_true, decide_eq_true_eq] at m
    obtain ⟨⟨⟨⟨m1, m2⟩, m3⟩, m4⟩, m5⟩ := m
    refine (set_o c m3 m4 m1 m2 m5).imp fun En σ H h => ?_
    obtain ⟨F0, H0, F, S, D, r, s, h⟩ := h
    rw [evS_own] at h
    have := stepY0 (o := true) r s h (Q := fun x H1 => gName i x σ H1 En.nx) fun F1 H1 x v sv D1 r1 p s1 hx h1 => ?_
    · exact this
    · rcases hx with ⟨_, rfl, hn⟩ | ⟨z, _⟩
      · exact h1 F1 H1 _ p.f0 r1 (s.own hn (fun a ha => r.nt_of ha) p)
      · cases z
  · cases m
theorem snds_par (i j : Nat) (oi oj : Bool) (a b : IE) : SndS L (.par i j oi oj a b) := fun P n sc X W st c m => by
  rw [mS_par] at m
  split at m
  · rename_i x px y py k1 p1 u v k2 p2 pos
    simp only [Bool.and_eq_true, decide_eq_true_eq, Bool.not_eq_true', locOnly] at m
    obtain ⟨⟨⟨⟨⟨⟨⟨⟨⟨⟨⟨⟨⟨m1, m2⟩, m3⟩, m4⟩, m5⟩, m6⟩, m7⟩, m8⟩, m9⟩, m10⟩, m11⟩, m12⟩, m13⟩, m14⟩ := m
    have hx : X.env.scope.names.lookup x = some .local := by rw [c.scope]; exact m4
    have hy : X.env.scope.names.lookup y = some .local := by rw [c.scope]; exact m5
    have hi : X.N[i]? = some x := by rw [c.N]; exact m2
    have hj : X.N[j]? = some y := by rw [c.N]; exact m3
    have hnd : X.N.Nodup := by rw [c.N]; exact c.nd
    have hxy : x ≠ y := by
      rintro rfl
      exact m1 (nodup_ix hnd hi hj)
    have ga := soundE L a P n sc X W u c.toCtxB m11
    have gb := soundE L b P n sc X W v c.toCtxB m12
    have pa : PE X u (tY oi L n W a) := by
      cases oi with
      | true => exact ga.po (by simpa using m13)
      | false => exact ga.pe (by simpa using m13)
    have pb : PE X v (tY oj L n W b) := by
      cases oj with
      | true => exact gb.po (by simpa using m14)
      | false => exact gb.pe (by simpa using m14)
    have hv := star_cons m7 [] X.env
    have hu := star_cons m6 [v] X.env
    have hsw : swappedStores [.Tuple [.Name x px, .Name y py] k1 p1] (.Tuple [u, v] k2 p2) X.env = pure (some [x, y]) := by
      have bk : X.env.blockKind = .function := by
        unfold PySem.Env.blockKind
        rw [c.scope, c.kind]; rfl
      have kx : X.env.kindOf x = some .local := hx
      have ky : X.env.kindOf y = some .local := hy
      have hnm : [x, y].eraseDups.length = 2 := by
        have : (y == x) = false := beq_eq_false_iff_ne.mpr (Ne.symm hxy)
        simp [List.eraseDups_cons, this]
      unfold swappedStores
      simp only [List.length_cons, List.length_nil, bk, List.head?_cons, Option.map_some, Option.getD_some, Expr.pos, List.filterMap_cons, List.filterMap_nil, kx, ky, m8, m9, m10, hnm]
      rw [if_neg (by decide)]
      split
      · rename_i hh
        simp only [List.any_cons, List.any_nil, Bool.or_false, Bool.or_eq_true] at hh
        rcases hh with hh | hh
        · cases u <;> first | cases (show false = true from hh) | cases (show false = true from m6)
        · cases v <;> first | cases (show false = true from hh) | cases (show false = true from m7)
      · simp only [beq_self_eq_true, Bool.and_self, if_true, List.length_cons, List.length_nil, hnm, m9, m10, bne_self_eq_false, Bool.or_self, Bool.false_eq_true, if_false]
    refine (ps_par c.calm hnd hi hj m1 hx hy (pa_cons pa (pa_cons pb pa_nil hv) hu) hsw rfl).imp fun En σ H h => ?_
    obtain ⟨F0, H0, F, S, D, r, s, h⟩ := h
    rw [evS_par] at h
    -- the values come first, then the slots
    have h' : PostM L.g W F0 H0 (FinS L.g F0 H0 F En) ((evE L.T (L.call n) a S >>= fun v => M.lift (slotV oi v) >>= fun sa => evE L.T (L.call n) b S >>= fun w => M.lift (slotV oj w) >>= fun sb => pure (.nx ((S.set i sa).set j sb))) D) := h
    refine stepY0 r s h' fun F1 H1 x1 v1 sv1 D1 r1 q1 s1 hx1 h1 => stepY0 r1 s1 h1 fun F2 H2 x2 v2 sv2 D2 r2 q2 s2 hx2 h2 => ⟨x1, x2, rfl, ?_⟩
    refine h2 F2 H2 _ (q1.trans q2).f0 r2 ?_
    rcases hx1 with ⟨_, rfl, n1⟩ | ⟨_, rfl, k1⟩
    · have sa := s.own (i := i) n1 (fun a ha => r.nt_of ha) q1
      rcases hx2 with ⟨_, rfl, n2⟩ | ⟨_, rfl, k2⟩
      · exact sa.own n2 (fun a ha => r1.nt_of ha) q2
      · exact (sa.grow q2).val k2
    · have sa := s1.val (i := i) k1
      rcases hx2 with ⟨_, rfl, n2⟩ | ⟨_, rfl, k2⟩
      · exact sa.own n2 (fun a ha => r1.nt_of ha) q2
      · exact (sa.grow q2).val k2
  · cases m
end
end BA
/-! BaSndS3 -/
set_option linter.all false
set_option maxRecDepth 100000
set_option maxHeartbeats 1000000
/-! BaSndS3: methods of lists of one's own; if, for, while; blocks. -/
namespace BA
open PySem PySem.Spec PyProof.Rows L2 LamX
section
variable {L : LW} {P : MP} {n : Nat} {sc : Scope} {X : Cx} {W : XK} {e : Expr}
theorem tyV_own {K : PySem.W.Frag} {H : Hp} {a : Addr} {xs : List V} (h : H a = some (.lst xs)) : tyV K "list" (.ref a) H := .inl ⟨rfl, xs, .of h⟩
theorem few1 {cp : Pos} {y : Expr} {env : PySem.Env} (hs : starEach [y] env = [(false, eval y env)]) : ((backTo cp (starEach [y] env)).all (fun x => !x.1) && (backToKw cp (keywordEach [] env)).all (fun x => x.1.isSome)
      && decide (([y] : List Expr).length + ([] : List Keyword).length + (if ([] : List Keyword).isEmpty then 0 else 1) < 30)) = true := by
  rw [hs]; rfl
theorem own_lst {g : GD} {H0 F H : Hp} {σ : L2.St} {S : BA.Env} {i : Nat} {ds : List PV} (s : SL g H0 F H σ S) (h : S[i]? = some (.own (.lst ds))) : ∃ a xs, σ[i]? = some (some (.ref a)) ∧ H a = some (.lst xs) ∧ RepAll g F xs ds ∧ ds.length ≤ sizeLine ∧ F a = none ∧ NT H0 a ∧ a ≠ g.d ∧ a ≠ g.l := by
  obtain ⟨a, k1, k2, k3, k4, k5, k6⟩ := s.ow i _ h
  cases k2 with
  | lst h r z => exact ⟨a, _, k1, h, r, z, k3, k4, k5, k6⟩
theorem snds_app (i : Nat) (ie : IE) : SndS L (.app i ie) := fun P n sc X W st c m => by
  rw [mS_app] at m
  split at m
  · rename_i x px f ap y cp pos
    simp only [Bool.and_eq_true, decide_eq_true_eq, Bool.not_eq_true'] at m
    obtain ⟨⟨⟨⟨⟨⟨⟨rfl, m2⟩, m3⟩, m4⟩, m5⟩, m6⟩, m7⟩, m8⟩ := m
    have hs := star_cons m6 [] X.env
    have pv : PE X (.Name x px) (tVar i) := pe_var (by rw [c.N]; exact m2) (c.vis m3) (okN_d m4).1 (okN_d m4).2
    refine (ps_expr (pe_bm F.plainAttrs_list F.slot_list_append F.type_list_append mt_append pv (pa_cons ((soundE L ie P n sc X W y c.toCtxB m7).pe m8) pa_nil hs) rfl (few1 hs) (by rw [m5]; exact beq_self_eq_true _) hs rfl) rfl).imp fun En σ H h => ?_
    obtain ⟨F0, H0, F, S, D, r, s, h⟩ := h
    rw [evS_app] at h
    split at h
    · rename_i ds hd
      obtain ⟨a, xs, k1, k2, k3, k4, k5, k6, k7, k8⟩ := own_lst s hd
      refine ⟨.ref a, k1, tyV_own k2, stepE0 r s h fun F1 H1 z v D1 r1 p s1 hx h1 => ?_⟩
      obtain ⟨q1, q2⟩ := p.accs k5 k2 k7 k8
      split at h1
      · rename_i hz
        have hxs : xs.length < sizeLine := by rw [k3.length]; exact hz
        refine ⟨a, xs, z, rfl, rfl, q1, hxs, ?_⟩
        refine h1 F1 _ σ p.f0 (r1.write k6 q2 q1 k7 k8) (s1.change hd k1 ((k3.mono p.f0).append (.cons hx .nil)) ?_)
        rw [List.length_append, List.length_singleton]
        omega
      · exact h1.elim
    · exact h.elim
  · cases m
theorem ev_bind {α β : Type} {g : GD} {W : XK} {F H : Hp} {R : β → Dr → Prop} {m : M α} {f : α → M β} {D : Dr} (h : PostM g W F H R ((m >>= f) D)) : PostM g W F H R ((m >>= f) D) := h
theorem snds_appP (i j : Nat) (ie : IE) : SndS L (.appP i j ie) := fun P n sc X W st c m => by
  rw [mS_appP] at m
  split at m
  · rename_i x px f ap y py f' ap' z cp' cp pos
    simp only [Bool.and_eq_true, decide_eq_true_eq] at m
    obtain ⟨⟨⟨⟨⟨⟨⟨⟨⟨⟨⟨⟨m0, rfl⟩, rfl⟩, m2⟩, m3⟩, m4⟩, m5⟩, m6⟩, m7⟩, m8⟩, m9⟩, m10⟩, m11⟩ := m
    have hs := star_cons m10 [] X.env
    have pv : PE X (.Name x px) (tVar i) := pe_var (by rw [c.N]; exact m2) (c.vis m3) (okN_d m4).1 (okN_d m4).2
    have pw : PE X (.Name y py) (tVar j) := pe_var (by rw [c.N]; exact m5) (c.vis m6) (okN_d m7).1 (okN_d m7).2
    have pp := pe_bm (X := X) (cpos := cp') F.plainAttrs_list F.slot_list_pop F.type_list_pop mt_popAt pw (pa_cons (soundE L ie P n sc X W z c.toCtxB m11).pb pa_nil hs) rfl (few1 hs) (by rw [m9]; exact beq_self_eq_true _) hs rfl
    refine (ps_expr (pe_bm F.plainAttrs_list F.slot_list_append F.type_list_append mt_append pv (pa_cons pp pa_nil rfl) rfl (few1 rfl) (by rw [m8]; exact beq_self_eq_true _) rfl rfl) rfl).imp fun En σ H h => ?_
    obtain ⟨F0, H0, F, S, D, r, s, h⟩ := h
    rw [evS_appP] at h
    split at h
    · rename_i xs ys hd he
      obtain ⟨a, us, k1, k2, k3, k4, k5, k6, k7, k8⟩ := own_lst s hd
      obtain ⟨b, vs, l1, l2, l3, l4, l5, l6, l7, l8⟩ := own_lst s he
      have hab : b ≠ a := by
        rintro rfl
        exact s.ap i j b _ _ m0 hd he k1 l1
      refine ⟨.ref a, k1, tyV_own k2, .ref b, l1, tyV_own l2, ?_⟩
      refine ⟨F0, H0, F, S, D, r, s, (h.bind.mono fun v D1 h1 F1 H1 x p hx => ?_).shift r⟩
      obtain ⟨q, eq, h2⟩ := h1.bind.lift
      obtain ⟨kz, ez, e3⟩ := Option.bind_eq_some_iff.mp eq
      cases v with
      | int zz =>
        cases ez
        split at e3
        · rename_i hsm
          obtain ⟨kk, e4, e5⟩ := Option.bind_eq_some_iff.mp e3
          obtain ⟨yv, e6, e7⟩ := Option.map_eq_some_iff.mp e5
          subst e7
          obtain ⟨q1, q2⟩ := p.accs k5 k2 k7 k8
          obtain ⟨q3, q4⟩ := p.accs l5 l2 l7 l8
          obtain ⟨yy, e8, e9⟩ := (l3.mono p.f0).getD e6
          have hb := small_le hsm
          have s1 := s.grow p
          have r1 := r.trans p
          split at h2
          · rename_i hz
            refine ⟨b, vs, kz, kk, yy, rfl, by rw [hx.int], q3, by omega, by omega, by rw [l3.length]; exact e4, e8, ?_⟩
            refine ⟨a, us, yy, rfl, rfl, by rw [upd_ne (Ne.symm hab)]; exact q1, by rw [k3.length]; exact hz, ?_⟩
            have w1 := r1.write (u' := vs.eraseIdx kk) l6 q4 q3 l7 l8
            have w2 := w1.write (u' := us ++ [yy]) k6 q2 (by rw [upd_ne (Ne.symm hab)]; exact q1) k7 k8
            have c1 := s1.change he l1 ((l3.mono p.f0).erase kk) (by have := len_erase ys kk; omega)
            have hd' : (S.set j (SV.own (PV.lst (ys.eraseIdx kk))))[i]? = some (.own (.lst xs)) := by rw [List.getElem?_set_ne (Ne.symm m0)]; exact hd
            have c2 := c1.change hd' k1 ((k3.mono p.f0).append (.cons e9 .nil)) (by rw [List.length_append, List.length_singleton]; omega)
            refine h2 F1 _ σ p.f0 w2 ?_
            rw [List.set_comm _ _ (Ne.symm m0)] at c2
            exact c2
          · exact h2.elim
        · cases e3
      | _ => cases ez
    · exact h.elim
  · cases m
theorem snds_pop (i j : Nat) : SndS L (.pop i j) := fun P n sc X W st c m => by
  rw [mS_pop] at m
  split at m
  · rename_i x px y py f ap cp pos
    simp only [Bool.and_eq_true, decide_eq_true_eq] at m
    obtain ⟨⟨⟨⟨⟨⟨⟨m0, rfl⟩, m2⟩, m3⟩, m4⟩, m5⟩, m6⟩, m7⟩ := m
    have pw : PE X (.Name y py) (tVar j) := pe_var (by rw [c.N]; exact m4) (c.vis m5) (okN_d m6).1 (okN_d m6).2
    have pp := pe_bm0 (X := X) (cpos := cp) F.plainAttrs_list F.slot_list_pop F.type_list_pop mt_pop pw rfl (by rw [m7]; exact beq_self_eq_true _)
    refine (ps_set (by rw [c.N]; exact c.nd) (by rw [c.N]; exact m2) (c.loc m3) pp rfl (.inl (c.fn x))).imp fun En σ H h => ?_
    obtain ⟨F0, H0, F, S, D, r, s, h⟩ := h
    rw [evS_pop] at h
    split at h
    · rename_i ds hd
      obtain ⟨a, xs, k1, k2, k3, k4, k5, k6, k7, k8⟩ := own_lst s hd
      split at h
      · rename_i v hv
        obtain ⟨yy, e8, e9⟩ := k3.getD hv
        refine ⟨.ref a, k1, tyV_own k2, a, xs, yy, rfl, rfl, k2, by rw [k3.length]; exact e8, ?_⟩
        have w1 := r.write (u' := xs.dropLast) k6 k5 k2 k7 k8
        have c1 := s.change hd k1 k3.dropLast (by rw [List.length_dropLast]; omega)
        exact h F _ _ (Same.refl _) w1 (c1.val e9)
      · exact h.elim
    · exact h.elim
  · cases m
theorem snds_exp (ie : IE) : SndS L (.exp ie) := fun P n sc X W st c m => by
  rw [mS_exp] at m
  split at m
  · rename_i x pos
    simp only [Bool.and_eq_true, Bool.not_eq_true'] at m
    refine (ps_expr (soundE L ie P n sc X W x c.toCtxB m.2).pb (notcomp_sw m.1 _ _ _)).imp fun En σ H h => ?_
    obtain ⟨F0, H0, F, S, D, r, s, h⟩ := h
    rw [evS_exp] at h
    exact ⟨F0, H0, F, S, D, r, s, (h.bind.mono fun v D1 h1 F1 H1 x p hx => h1 F1 H1 σ p.f0 (r.trans p) (s.grow p)).shift r⟩
  · cases m
theorem snds_ret (ie : IE) : SndS L (.ret ie) := fun P n sc X W st c m => by
  rw [mS_ret] at m
  split at m
  · rename_i x pos
    simp only [Bool.and_eq_true, Bool.not_eq_true'] at m
    refine (ps_ret ((soundE L ie P n sc X W x c.toCtxB m.1).pe m.2)).imp fun En σ H h => ?_
    obtain ⟨F0, H0, F, S, D, r, s, h⟩ := h
    rw [evS_ret] at h
    exact stepE0 r s h fun F1 H1 z v D1 r1 p s1 hx h1 => h1 F1 H1 z p.f0 r1 hx
  · cases m
theorem snds_retn : SndS L .retn := fun P n sc X W st c m => by
  rw [mS_retn] at m
  split at m
  · refine ps_retN.imp fun En σ H h => ?_
    obtain ⟨F0, H0, F, S, D, r, s, h⟩ := h
    exact h F H .non (Same.refl _) r .non
  · cases m
theorem snds_brk : SndS L .brk := fun P n sc X W st c m => by
  rw [mS_brk] at m
  split at m
  · refine ps_break.imp fun En σ H h => ?_
    obtain ⟨F0, H0, F, S, D, r, s, h⟩ := h
    exact h F H σ (Same.refl _) r s
  · cases m
theorem snds_cnt : SndS L .cnt := fun P n sc X W st c m => by
  rw [mS_cnt] at m
  split at m
  · refine ps_continue.imp fun En σ H h => ?_
    obtain ⟨F0, H0, F, S, D, r, s, h⟩ := h
    exact h F H σ (Same.refl _) r s
  · cases m
theorem snds_pas : SndS L .pas := fun P n sc X W st c m => by
  rw [mS_pas] at m
  split at m
  · refine ps_pass.imp fun En σ H h => ?_
    obtain ⟨F0, H0, F, S, D, r, s, h⟩ := h
    exact h F H σ (Same.refl _) r s
  · cases m
theorem snds_iff {ie : IE} {a b : IB} (ia : SndB L a) (ib : SndB L b) : SndS L (.iff ie a b) := fun P n sc X W st c m => by
  rw [mS_iff] at m
  split at m
  · rename_i x ys zs pos
    simp only [Bool.and_eq_true, Bool.not_eq_true'] at m
    obtain ⟨⟨⟨m1, m2⟩, m3⟩, m4⟩ := m
    refine (ps_if ((soundE L ie P n sc X W x c.toCtxB m1).pt m2) (ia P n sc X W ys c m3) (ib P n sc X W zs c m4)).imp fun En σ H h => ?_
    obtain ⟨F0, H0, F, S, D, r, s, h⟩ := h
    rw [evS_iff] at h
    refine stepT0 r s h fun F1 H1 k D1 r1 p s1 h1 => ?_
    cases k with
    | true =>
      simp only [if_true] at h1 ⊢
      exact ⟨F0, H0, F1, S, D1, r1, s1, h1.mono fun fl D2 q => q.grow p.f0⟩
    | false =>
      simp only [Bool.false_eq_true, if_false] at h1 ⊢
      exact ⟨F0, H0, F1, S, D1, r1, s1, h1.mono fun fl D2 q => q.grow p.f0⟩
  · cases m
theorem snds_for {t : IT} {it : II} {b : IB} (ib : SndB L b) : SndS L (.for_ t it b) := fun P n sc X W st c m => by
  rw [mS_for] at m
  split at m
  · rename_i tg iter body pos
    simp only [Bool.and_eq_true] at m
    obtain ⟨⟨⟨m1, m2⟩, m3⟩, m4⟩ := m
    refine (ps_for c.pass c.calm (soundI L it P n sc X W false tg iter c.toCtxB m1) (pg_T (L := L) (P := P) c.K c.N c.nd c.calm c.scope t tg (fun i _ y _ => .inl (c.fn y)) m3) (ib P n sc X W body c m4) (noset_fold m2 _)).imp fun En σ H h => ?_
    obtain ⟨F0, H0, F, S, D, r, s, h⟩ := h
    rw [evS_for] at h
    refine stepI0 r s h fun F1 H1 J xs D1 r1 p s1 hJ h1 => ?_
    have h1 : PostM L.g W F0 H0 (FinS L.g F0 H0 F1 En) (forL (fun x S' => M.lift (bindT t x S') >>= fun S'' => evB L.T (L.call n) b S'') xs S D1) := h1.mono fun fl D2 q => q.grow p.f0
    refine ⟨fun i m σ H => m = xs.length - i ∧ i ≤ xs.length ∧ ∃ Fi S D, RB L.g F0 H0 Fi H D ∧ Same F1 Fi ∧ SL L.g H0 Fi H σ S ∧ PostM L.g W F0 H0 (FinS L.g F0 H0 F1 En) (forL (fun x S' => M.lift (bindT t x S') >>= fun S'' => evB L.T (L.call n) b S'') (xs.drop i) S D), ⟨xs.length, by simp, Nat.zero_le _, F1, S, D1, r1, Same.refl _, s1, h1⟩, ?_⟩
    rintro i m' σi Hi ⟨rfl, hi, Fi, Si, Di, ri, sj, si, hp⟩
    obtain ⟨j1, j2⟩ := hJ.2 i Fi Hi F0 H0 Di ri sj (fun z => nomatch z)
    by_cases hlt : i < xs.length
    · right
      have hx : xs[i]? = some xs[i] := List.getElem?_eq_getElem hlt
      obtain ⟨hgo, hy⟩ := j1 _ hx
      have hdr : xs.drop i = xs[i] :: xs.drop (i + 1) := (List.getElem_cons_drop hlt).symm
      rw [hdr] at hp
      refine ⟨hgo, fun σ' H' => ∃ F' S' D', RB L.g F0 H0 F' H' D' ∧ Same F1 F' ∧ SL L.g H0 F' H' σ' S' ∧ PostM L.g W F0 H0 (FinS L.g F0 H0 F1 En) (forL (fun x S' => M.lift (bindT t x S') >>= fun S'' => evB L.T (L.call n) b S'') (xs.drop (i + 1)) S' D'), ?_, fun x H'' yl => ?_⟩
      · rintro σ' H' ⟨F', S', D', k1, k2, k3, k4⟩
        exact ⟨xs.length - (i + 1), by omega, rfl, hlt, F', S', D', k1, k2, k3, k4⟩
      · obtain ⟨F'', r'', rx⟩ := hy x H'' yl
        have hp1 := PostM.bind (m := M.lift (bindT t xs[i] Si) >>= fun S'' => evB L.T (L.call n) b S'') hp
        rw [M.bind_eq] at hp1
        cases eb : bindT t xs[i] Si with
        | none => rw [eb] at hp1; exact hp1.elim
        | some S' =>
          rw [eb] at hp1
          have hp1 : PostM L.g W F0 H0 _ (evB L.T (L.call n) b S' Di) := hp1
          have rr := ri.trans r''
          have ss := si.grow r''
          have sj' := sj.trans r''.f0
          refine ⟨H0, F'', Si, xs[i], S', rr.ext, ss, rx, eb, fun σ2 hsl hl hq => ⟨F0, H0, F'', S', Di, rr, hsl F'' H'' (Same.refl _) ss, hp1.mono fun fl D2 q => ?_⟩⟩
          cases fl with
          | nx S2 => exact fun F3 H3 σ3 e3 r3 s3 => ⟨F3, S2, D2, r3, sj'.trans e3, s3, q⟩
          | ct S2 => exact fun F3 H3 σ3 e3 r3 s3 => ⟨F3, S2, D2, r3, sj'.trans e3, s3, q⟩
          | bk S2 => exact fun F3 H3 σ3 e3 r3 s3 => q F3 H3 σ3 (sj'.trans e3) r3 s3
          | rt v => exact fun F3 H3 x3 e3 r3 s3 => q F3 H3 x3 (sj'.trans e3) r3 s3
    · left
      have e : i = xs.length := by omega
      subst e
      rw [List.drop_length] at hp
      exact ⟨j2 rfl, hp Fi Hi σi sj ri si⟩
  · cases m
theorem whl_some {test : BA.Env → M Bool} {body : BA.Env → M Fl} {S : BA.Env} {D : Dr} {g : GD} {W : XK} {F H : Hp} {R : Fl → Dr → Prop} (h : PostM g W F H R (whlL test body S D)) : ∃ k, PostM g W F H R (whlN test body k S D) := by
  unfold whlL at h
  split at h
  · exact ⟨_, h⟩
  · exact h.elim
theorem snds_whl {ie : IE} {b : IB} (ib : SndB L b) : SndS L (.whl ie b) := fun P n sc X W st c m => by
  rw [mS_whl] at m
  split at m
  · rename_i x body pos
    simp only [Bool.and_eq_true, Bool.not_eq_true'] at m
    obtain ⟨⟨m1, m2⟩, m3⟩ := m
    refine (ps_while c.pass ((soundE L ie P n sc X W x c.toCtxB m1).pt m2) (ib P n sc X W body c m3)).imp fun En σ H h => ?_
    obtain ⟨F0, H0, F, S, D, r, s, h⟩ := h
    rw [evS_whl] at h
    obtain ⟨k, hk⟩ := whl_some h
    refine ⟨fun m σ H => ∃ Fi S D, RB L.g F0 H0 Fi H D ∧ Same F Fi ∧ SL L.g H0 Fi H σ S ∧ PostM L.g W F0 H0 (FinS L.g F0 H0 F En) (whlN (fun S' => evE L.T (L.call n) ie S' >>= fun v => M.lift (truV v)) (fun S' => evB L.T (L.call n) b S') m S D), ⟨k, F, S, D, r, Same.refl _, s, hk⟩, ?_⟩
    rintro m' σi Hi ⟨Fi, Si, Di, ri, sj, si, hp⟩
    cases m' with
    | zero => exact hp.elim
    | succ m' =>
      have hp : PostM L.g W F0 H0 (FinS L.g F0 H0 F En) ((evE L.T (L.call n) ie Si >>= fun v => M.lift (truV v) >>= fun c => if c = true then evB L.T (L.call n) b Si >>= fun f => match f with
          | .nx S' => whlN (fun S' => evE L.T (L.call n) ie S' >>= fun v => M.lift (truV v)) (fun S' => evB L.T (L.call n) b S') m' S'
          | .ct S' => whlN (fun S' => evE L.T (L.call n) ie S' >>= fun v => M.lift (truV v)) (fun S' => evB L.T (L.call n) b S') m' S'
          | .bk S' => pure (.nx S')
          | .rt v => pure (.rt v)
        else pure (.nx Si)) Di) := by
        rw [← M.bind_assoc]
        exact hp
      refine stepT0 ri si hp fun F1 H1 k D1 r1 p s1 h1 => ?_
      cases k with
      | true =>
        simp only [if_true] at h1 ⊢
        refine ⟨fun σ' H' => ∃ F' S' D', RB L.g F0 H0 F' H' D' ∧ Same F F' ∧ SL L.g H0 F' H' σ' S' ∧ PostM L.g W F0 H0 (FinS L.g F0 H0 F En) (whlN (fun S' => evE L.T (L.call n) ie S' >>= fun v => M.lift (truV v)) (fun S' => evB L.T (L.call n) b S') m' S' D'), ?_, F0, H0, F1, Si, D1, r1, s1, h1.bind.mono fun fl D2 q => ?_⟩
        · rintro σ' H' ⟨F', S', D', k1, k2, k3, k4⟩
          exact ⟨m', Nat.lt_succ_self _, F', S', D', k1, k2, k3, k4⟩
        · have sj' := sj.trans p.f0
          cases fl with
          | nx S2 => exact fun F3 H3 σ3 e3 r3 s3 => ⟨F3, S2, D2, r3, sj'.trans e3, s3, q⟩
          | ct S2 => exact fun F3 H3 σ3 e3 r3 s3 => ⟨F3, S2, D2, r3, sj'.trans e3, s3, q⟩
          | bk S2 => exact fun F3 H3 σ3 e3 r3 s3 => q F3 H3 σ3 (sj'.trans e3) r3 s3
          | rt v => exact fun F3 H3 x3 e3 r3 s3 => q F3 H3 x3 (sj'.trans e3) r3 s3
      | false =>
        simp only [Bool.false_eq_true, if_false] at h1 ⊢
        exact h1 F1 H1 σi (sj.trans p.f0) r1 s1
  · cases m
theorem sndb_nil : SndB L .nil := fun P n sc X W sts c m => by
  cases sts with
  | nil =>
    refine pss_nil.imp fun En σ H h => ?_
    obtain ⟨F0, H0, F, S, D, r, s, h⟩ := h
    exact h F H σ (Same.refl _) r s
  | cons => cases (show false = true from m)
theorem sndb_cons {s : IS} {b : IB} (is : SndS L s) (ib : SndB L b) : SndB L (.cons s b) := fun P n sc X W sts c m => by
  rw [mB_cons] at m
  split at m
  · rename_i hf
    cases s with
    | frz i =>
      refine (ib P n sc X W sts c m).imp fun En σ H h => ?_
      obtain ⟨F0, H0, F, S, D, r, sl, h⟩ := h
      rw [evB_cons, evS_frz] at h
      split at h
      · rename_i v hv
        obtain ⟨F', e1, r1, s1⟩ := sl.share r hv
        have h : PostM L.g W F0 H0 (FinS L.g F0 H0 F En) (evB L.T (L.call n) b (S.set i (.val v)) D) := h
        exact ⟨F0, H0, F', _, D, r1, s1, h.mono fun fl D2 q => q.grow e1⟩
      · exact h.elim
    | _ => cases hf
  · cases sts with
    | nil => cases (show false = true from m)
    | cons st sts =>
      simp only [Bool.and_eq_true] at m
      refine (pss_cons (is P n sc X W st c m.1) (ib P n sc X W sts c m.2)).imp fun En σ H h => ?_
      obtain ⟨F0, H0, F, S, D, r, sl, h⟩ := h
      rw [evB_cons] at h
      refine ⟨F0, H0, F, S, D, r, sl, h.bind.mono fun fl D1 q => ?_⟩
      cases fl with
      | nx S1 => exact fun F1 H1 σ1 e1 r1 s1 => ⟨F0, H0, F1, S1, D1, r1, s1, PostM.mono q fun fl D2 q2 => q2.grow e1⟩
      | rt v => exact fun F1 H1 x e1 r1 hx => q F1 H1 x e1 r1 hx
      | bk S1 => exact fun F1 H1 σ1 e1 r1 s1 => q F1 H1 σ1 e1 r1 s1
      | ct S1 => exact fun F1 H1 σ1 e1 r1 s1 => q F1 H1 σ1 e1 r1 s1
end
end BA
/-! BaSndR -/
set_option linter.all false
set_option maxRecDepth 100000
set_option maxHeartbeats 4000000
/-! BaSndR: BadText(line): super().__init__('no such text'); self.line = line. raise. -/
namespace PySem
namespace BtX
open PySem.W PySem.Calls PyProof.Rows PySem.HandSPX
def iA (p1 p2 : Pos) : Arguments := { posonlyargs := [], args := [{ arg := "self", annotation := none, pos := p1 }, { arg := "line", annotation := none, pos := p2 }], vararg := none, kwonlyargs := [], kw_defaults := [], kwarg := none, defaults := [] }
def iB (m : Str) (j : Nat) (r0 r1 r2 r3 r4 r5 q1 q2 q3 q4 : Pos) : List Stmt :=
  [.Expr (.Call (.Attribute (.Call (.Name "super" r0) [] [] r1) "__init__" r2) [.Constant (.str m) j r3] [] r4) r5, .Assign [.Attribute (.Name "self" q1) "line" q2] (.Name "line" q3) q4]
/-- what the written part says of BadText, at C, and of its __init__, at fI -/
structure BtTxt (prog : Program) (K : Frag) (mg : Str → Option Value) (C fI : Addr) : Prop where
  cls : ∃ nm q N bs bm sn sub ab col dd k0 k1 k2 k3 k5, K.lookup C = some (excClassObj nm q C N bs bm true sn sub ab col dd k0 k1 k2 k3 k5 "ValueError.__new__") ∧ refsVE bm = true
  sa : findIn K (.ref C) "__setattr__" = some (some (.builtin "object.__setattr__"))
  noN : findIn K (.ref C) "line" = some none
  iC : findIn K (.ref C) "__init__" = some (some (.ref fI))
  tC : typeIn K (.ref fI) = some (.type "function")
  kC : keepIn K (.ref C) = true
  exC : subIn K (.ref C) (.type "BaseException") = some true
  tyC : typeIn K (.ref C) = some (.type "type")
  hdC : hasDictIn K C = true
  ms : mg "super" = none
  htop : (prog.main.scope.names.lookup ("super" : Str)).isSome = false
  along : ks_superIn K C C "__init__" = some (some (.builtin "ValueError.__init__"))
  subV : subIn K (.ref C) (.type "ValueError") = some true
  mroC : mroIn K C (.ref C) = some true
  tp : nsIn K cStatics "thirdparty.any" = some none
  fn : ∃ (oc ct cl ccl : Value) (od an cld ccd : Option Addr) (doc pm : Value) (osl csl ccs : Array (Option Value)) (vs : Array Value) (file : Str) (tf : Tok) (cda cc : Addr) (m : Str) (j : Nat) (p1 p2 r0 r1 r2 r3 r4 r5 q1 q2 q3 q4 : Pos),
    K.lookup fI = some ⟨oc, od, .func (ksFn "__init__" "BadText.__init__" (iA p1 p2) (iB m j r0 r1 r2 r3 r4 r5 q1 q2 q3 q4) iS .none .none doc pm an (.ref cda) ct cc), osl⟩ ∧ codeIn K (.ref cda) "BadText.__init__" = true ∧
    K.lookup cc = some ⟨cl, cld, .cell (some (.ref C)), csl⟩ ∧ K.lookup cda = some ⟨ccl, ccd, .fields vs, ccs⟩ ∧ vs[2]? = some (.str file tf) ∧ ((prog.main.file : Str) == file) = true ∧ (r2.endLine == r4.line) = true
structure InitEnd (h h' : Heap) (x C dx t1 : Addr) (v : Value) : Prop where
  keep : ∀ b o, b ≠ x → h.get? b = some o → h'.get? b = some o
  obj : h'.get? x = some { cls := .ref C, dict := some dx, data := .fields #[.ref t1, .none, .none, .none, .bool false, .none] }
  dbig : h.objs.size ≤ dx
  dne : dx ≠ x
  ns : h'.Ns1 dx (fun y => if y = "line" then some v else none)
structure OwnMade (h h' : Heap) (e C d : Addr) (v : Value) : Prop where
  keep : ∀ b o, h.get? b = some o → h'.get? b = some o
  new : h.objs.size ≤ e
  obj : ∃ oe vs, h'.get? e = some oe ∧ oe.cls = .ref C ∧ oe.dict = some d ∧ oe.data = .fields vs ∧ vs[1]? = some .none
  dbig : h.objs.size ≤ d
  dne : d ≠ e
  ns : h'.Ns1 d (fun y => if y = "line" then some v else none)
section
variable {prog : Program} {w : World} {M : Model} {A : Around} {E : Value → Shared → Prop} {h : Heap} {g : Array GenState} {d : Drawn} {t : Nat} {os : OsState}
variable {nm q : Str} {C N : Addr} {bs bm bmB : List Value} {hdct : Bool} {sn : List Str} {sub : List Value} {ab : Bool} {col : Option Bool} {dd : Option Addr} {k0 k1 k2 k3 k5 : Option Value}
/-- the wrapper called -/
theorem call_bw {u e t0 : Addr} {rest : List Value} {Q : Value → Shared → Prop}
    (hC : h.get? C = some (excClassObj nm q C N bs bm hdct sn sub ab col dd k0 k1 k2 k3 k5 "ValueError.__new__")) (he : h.get? e = some (HandSPX.excO C t0)) (hu : h.get? u = some (kxs_mw "ValueError.__init__" e)) (hrest : rest.length ≤ sizeLine)
    (hq : ∀ h' t1, (∀ b o, b ≠ e → h.get? b = some o → h'.get? b = some o) → h'.get? e = some (HandSPX.excO C t1) → Q .none ⟨h', g, d, t, os⟩) :
    wpAny (model prog w) A (call (.ref u) rest) Q E ⟨h, g, d, t, os⟩ := by
  refine wpAny_call (codeAny_of_tree ?_)
  show wpAny _ A.in1 (callAny (.ref u) ⟨rest, []⟩) _ _ _
  simp only [callAny]
  refine wpAny_bind (wpAny_load hu ?_)
  simp only [kxs_mw, show (Value.type "method-wrapper" == Value.type "method" || Value.type "method-wrapper" == Value.type "builtin_function_or_method" || Value.type "method-wrapper" == Value.type "method-wrapper") = true by decide, if_true]
  refine KFB.if_so (by decide) ?_
  refine wpAny_bind (check_bound_init F.excBase_ValueError.toExcCallFacts hC he rfl ?_)
  refine wpAny_bind (wpAny_pure (wpAny_pure ?_))
  refine ⟨plainId_quiet F.excBase_ValueError.init.plain _, codeAny_builtin F.excBase_ValueError.initEntry ?_⟩
  exact exc_init_tree (cls := .ref C) (t0 := t0) (dv := none) (c2 := .none) (c3 := .none) (b4 := .bool false) he hrest fun h' k e' _ => hq h' _ k e'
end
section
variable {prog : Program} {w : World} {A : Around} {E : Value → Shared → Prop} {R : Result → Shared → Prop} {s : Shared} {K : Frag} {mg mb : Str → Option Value} {C fI : Addr}
theorem bt_init (T : BtTxt prog K mg C fI) {x t0 : Addr} {v : Value} (X : K.In s.heap) (hlim : s.heap.NoLimit) (hG : s.heap.Ns mainGlobals mg) (hB : s.heap.Ns builtinsNs mb) (hmb : mb "super" = some (.type "super")) (hx : s.heap.get? x = some (excO C t0)) (hnx : K.lookup x = none) (hroom : A.depth < recursionLimit)
    (hq : ∀ h' tk dx t1, InitEnd s.heap h' x C dx t1 v → R (.ok (.ret .none)) { s with heap := h', toks := tk }) :
    codeAny (model prog w) A (.call (.ref fI) ⟨[.ref x, v], []⟩) R s := by
  obtain ⟨oc, ct, cl, ccl, od, an, cld, ccd, doc, pm, osl, csl, ccs, vs, file, tf, cda, cc, m, j, p1, p2, r0, r1, r2, r3, r4, r5, q1, q2, q3, q4, ho, hcd, hcell, hcode, hvs, hfile, hm⟩ := T.fn
  obtain ⟨nm, q, N, bs, bm, sn, sub, ab, col, dd, k0, k1, k2, k3, k5, hC, hbm⟩ := T.cls
  have hcl : clsIn K C = some { name := nm, bases := bs, mro := .ref C :: bm, ns := N, qualname := q, hasDict := true, slotNames := sn, subclasses := sub, abstract := ab, collection := col, hasDel := false } := by unfold clsIn; rw [hC] <;> rfl
  have hxL : x ≠ s.heap.objs.size := Nat.ne_of_lt (Heap.lt_size hx)
  have nx : ∀ {a : Addr} {o : Obj}, K.lookup a = some o → a ≠ x := fun {a o} e z => by rw [z, hnx] at e; cases e
  refine ks_codeAny_call_defAt (fd := ksFn "__init__" "BadText.__init__" (iA p1 p2) (iB m j r0 r1 r2 r3 r4 r5 q1 q2 q3 q4) iS .none .none doc pm an (.ref cda) ct cc) (body := iB m j r0 r1 r2 r3 r4 r5 q1 q2 q3 q4) (binds := [("self", .ref x), ("line", v)])
    hroom (X _ _ ho) rfl hlim (codeRec_of X hcd) rfl (BindsTo.of_eq (by first | rfl | with_unfolding_all rfl)) (by show ∀ x ∈ iS.names, x.2 ≠ .cell; decide) (fun y hy => ?_) (fun h₁ hns k => ?_) rfl rfl rfl
  · rcases List.mem_cons.mp hy with rfl | hy
    · rfl
    · rcases List.mem_cons.mp hy with rfl | hy
      · rfl
      · cases hy
  have X₁ : K.In h₁ := X.keeps k
  have hx₁ := k _ _ hx
  obtain ⟨sh, sg, sd, st, so⟩ := s
  simp only at hxL hns k hG hB hlim X
  show wpAt _ (A.deeper (ksEnv "BadText.__init__" iS sh.objs.size fI (.ref cda) cc)) (.func _ (ksEnv "BadText.__init__" iS sh.objs.size fI (.ref cda) cc)) (execs _ (ksEnv "BadText.__init__" iS sh.objs.size fI (.ref cda) cc)) _ _ _
  obtain ⟨oD, hD1, hD2⟩ : ∃ oD, h₁.get? C = some oD ∧ oD.data = .cls { name := nm, bases := bs, mro := .ref C :: bm, ns := N, qualname := q, hasDict := true, slotNames := sn, subclasses := sub, abstract := ab, collection := col, hasDel := false } := ⟨_, X₁ _ _ hC, rfl⟩
  have I : InstAt h₁ x (excO C t0) C none := ⟨hx₁, rfl, rfl, trivial⟩
  have hE : eval (.Call (.Attribute (.Call (.Name "super" r0) [] [] r1) "__init__" r2) [.Constant (.str m) j r3] [] r4) (ksEnv "BadText.__init__" iS sh.objs.size fI (.ref cda) cc) = (do
      let ov ← attributeBase (.Call (.Name "super" r0) [] [] r1) "__init__" (ksEnv "BadText.__init__" iS sh.objs.size fI (.ref cda) cc) (eval (.Call (.Name "super" r0) [] [] r1) (ksEnv "BadText.__init__" iS sh.objs.size fI (.ref cda) cc))
      standAt r2.atName
      let (f, first) ← holding [ov] (getMethod ov "__init__" (do return (← importBound (.Call (.Name "super" r0) [] [] r1) (ksEnv "BadText.__init__" iS sh.objs.size fI (.ref cda) cc)).getD true))
      callWith r4 f first (backTo r4 (starEach [.Constant (.str m) j r3] (ksEnv "BadText.__init__" iS sh.objs.size fI (.ref cda) cc))) []) := by
    have hpos : methodCallPos true (.Call (.Name "super" r0) [] [] r1) (ksEnv "BadText.__init__" iS sh.objs.size fI (.ref cda) cc) r2 r4 = pure r4 := by
      unfold methodCallPos
      rw [hm]; rfl
    have hform : methodCallForm ([Expr.Constant (.str m) j r3].length + ([] : List Keyword).length) (backTo r4 (starEach [.Constant (.str m) j r3] (ksEnv "BadText.__init__" iS sh.objs.size fI (.ref cda) cc))) [] = true := rfl
    have hke : backToKw r4 (keywordEach [] (ksEnv "BadText.__init__" iS sh.objs.size fI (.ref cda) cc)) = [] := rfl
    rw [arm_eval_Call, hke]
    unfold methodCall
    rw [hform, hpos]
    simp only [pure_bind]
    rfl
  refine ks_wpAt_execs_cons (ks_wpAt_Expr_any (ks_wpAt_MethodCall (he := hE) (ks_wpAt_super_base (env := ksEnv "BadText.__init__" iS sh.objs.size fI (.ref cda) cc) rfl rfl (by decide) rfl (X₁ _ _ ho) rfl rfl rfl (X₁ _ _ hcode) rfl hvs hfile T.htop ?_)))
  refine ks_loadName_global rfl rfl (loadGlobal_builtin (env := ksEnv "BadText.__init__" iS sh.objs.size fI (.ref cda) cc) (hG.keeps k) T.ms (hB.keeps k) hmb ⟨rfl, ?_⟩)
  refine wpAny_loadName_free rfl rfl rfl ⟨_, X₁ _ _ hcell, rfl⟩ ?_
  refine wpAny_loadName_local rfl rfl hns (by first | rfl | with_unfolding_all rfl | kernel_rfl) ?_
  refine ks_wpAny_isType_cls hD1 hD2 ⟨rfl, ?_⟩
  refine ks_wpAny_call_super hD1 hD2 hx₁ rfl (fun c e => by cases e) (looks_mroIn X₁ T.mroC) (fun h₂ e₂ k₂ => ?_)
  -- the bound wrapper
  have X₂ : K.In h₂ := X₁.keeps k₂
  have I₂ : InstAt h₂ x (excO C t0) C none := ⟨k₂ _ _ hx₁, rfl, rfl, trivial⟩
  have hI : Looks (model prog w) h₂ (isInstance (.ref x) (.type "ValueError")) true := I₂.type.andThen (looks_subIn X₂ T.subV)
  have hal := T.along
  unfold ks_superIn at hal
  rw [hcl] at hal
  refine kxs_getMethod kxs_ValueError e₂ (looks_opaque X₂ T.tp) (l₀ := .ref C :: bm) (fun A Q E s k q => wpAny_bind ((looks_clsIn X₂ hcl) A _ E s k (wpAny_pure q))) rfl X₂ hal hI (ks_ne X₂ I₂ hcl) (by decide) ?_
  generalize hu : h₂.objs.size = u
  have hmw : (h₂.push (kxs_mw "ValueError.__init__" x)).get? u = some (kxs_mw "ValueError.__init__" x) := by rw [← hu]; exact Heap.get?_push_size _ rfl
  have k₃ : ∀ b o, h₂.get? b = some o → (h₂.push (kxs_mw "ValueError.__init__" x)).get? b = some o := fun b o e => Heap.get?_push_of_some _ e
  generalize h₂.push (kxs_mw "ValueError.__init__" x) = h₃ at hmw k₃
  have X₃ : K.In h₃ := X₂.keeps k₃
  refine kxs_callWith (i := "ValueError.__init__") (x := x) rfl (evalArgs_plain ?_)
  refine Calls.spliced_cons ?_
  show wpAny _ _ (eval (.Constant (.str m) j r3) (ksEnv "BadText.__init__" iS sh.objs.size fI (.ref cda) cc)) _ _ _
  refine Calls.Constant_str (Calls.spliced_nil ⟨hmw, ?_⟩)
  refine call_bw (X₃ _ _ hC) (k₃ _ _ (k₂ _ _ hx₁)) hmw (by show (1 : Nat) ≤ sizeLine; rw [sizeLine_eq]; decide) fun h₄ t1 k₄ hx₄ => ?_
  -- self.line = line
  have X₄ : K.In h₄ := fun a o e => k₄ a o (nx e) (X₃ a o e)
  have keepL : ∀ b o, b ≠ x → h₁.get? b = some o → h₄.get? b = some o := fun b o hb e => k₄ b o hb (k₃ b o (k₂ b o e))
  have hns₄ : h₄.Ns sh.objs.size (fun y => ([("self", .ref x), ("line", v)] : List (Str × Value)).reverse.lookup y) := by
    obtain ⟨oL, es, ep, e1, e2⟩ := hns
    exact ⟨oL, es, ep, keepL _ _ (Ne.symm hxL) e1, e2⟩
  refine ks_wpAt_execs_cons (wpAt_of_wpAny (plainObj_wpAny_Assign_Attribute ?_))
  refine wpAny_Name (wpAny_loadName_local rfl rfl hns₄ (by first | rfl | with_unfolding_all rfl | kernel_rfl) ?_) (by decide)
  refine wpAny_Name (wpAny_loadName_local rfl rfl hns₄ (by first | rfl | with_unfolding_all rfl | kernel_rfl) ?_) (by decide)
  refine set_plain X₄ (ox := excO C t1) (od := none) ⟨hx₄, rfl, rfl, trivial⟩ T.sa ?_
  refine exc_osa X₄ hx₄ hcl (show refsVE (.ref C :: bm) = true from hbm) rfl T.noN (fun h₅ tk₅ dx k₅ dn dne hx₅ hn₅ => ?_)
  have z : sh.objs.size < h₄.objs.size := hns₄.lt
  exact wpAt_of_wpAny (wpAny_execs_nil (hq h₅ tk₅ dx t1 ⟨fun b o hb e => k₅ b o hb (keepL b o hb (k b o e)), hx₅, Nat.le_of_lt (Nat.lt_of_lt_of_le z dn), dne, hn₅⟩))
theorem bt_made (T : BtTxt prog K mg C fI) {v : Value} (X : K.In s.heap) (hlim : s.heap.NoLimit) (hG : s.heap.Ns mainGlobals mg) (hB : s.heap.Ns builtinsNs mb) (hmb : mb "super" = some (.type "super")) (hroom : A.depth + 1 < recursionLimit)
    (hq : ∀ h' tk e d, OwnMade s.heap h' e C d v → R (.ok (.ret (.ref e))) { s with heap := h', toks := tk }) :
    codeAny (model prog w) A (.call (.ref C) ⟨[v], []⟩) R s := by
  obtain ⟨nm, q, N, bs, bm, sn, sub, ab, col, dd, k0, k1, k2, k3, k5, hC, hbm⟩ := T.cls
  obtain ⟨hp, g, dr, tk, os⟩ := s
  have k : ∀ b o, hp.get? b = some o → ((hp.push (kdv_tup [v])).push (excO C hp.objs.size)).get? b = some o := fun b o e => Heap.get?_push_of_some _ (Heap.get?_push_of_some _ e)
  have hget : ((hp.push (kdv_tup [v])).push (excO C hp.objs.size)).get? (hp.objs.size + 1) = some (excO C hp.objs.size) := by heap_get
  have hnx : K.lookup (hp.objs.size + 1) = none := by
    cases e : K.lookup (hp.objs.size + 1) with
    | none => rfl
    | some o =>
      have z : hp.get? (hp.objs.size + 1) = some o := X _ _ e
      exact absurd (Nat.lt_of_succ_lt (Heap.lt_size z)) (Nat.lt_irrefl _)
  refine call_own F.excBase_ValueError (fun X => refsVE_contains X bm hbm) (X _ _ hC) (looks_findIn X T.iC) (fun self => bind_fn X self T.tC) (by show (1 : Nat) ≤ sizeLine; rw [sizeLine_eq]; decide) ?_
  refine bt_init (s := ⟨(hp.push (kdv_tup [v])).push (excO C hp.objs.size), g, dr, tk, os⟩) T (X.keeps k) (hlim.keeps k) (hG.keeps k) (hB.keeps k) hmb hget hnx ?_ fun h' tk' dx t1 ⟨k', hx, dn, dne, hns⟩ => ?_
  · show A.depth + 1 < recursionLimit
    exact hroom
  · have old : ∀ b o, hp.get? b = some o → h'.get? b = some o := fun b o e => k' b o (Nat.ne_of_lt (Nat.lt_succ_of_lt (Heap.lt_size e))) (k b o e)
    have z : hp.objs.size + 1 + 1 ≤ dx := by
      first
        | (simpa only [Heap.size_push] using dn)
        | exact dn
        | (have q := dn; rw [Heap.size_push, Heap.size_push] at q; exact q)
    exact ⟨rfl, hq h' tk' (hp.objs.size + 1) dx ⟨old, Nat.le_succ _, ⟨_, _, hx, rfl, rfl, rfl, rfl⟩, Nat.le_trans (Nat.le_trans (Nat.le_succ _) (Nat.le_succ _)) z, dne, hns⟩⟩
end
end BtX
end PySem
namespace BA
open PySem PySem.Spec PyProof.Rows L2 LamX
theorem relO_one {nm : Str} {v : V} {v' : Value} (r : RelV v v') (f : Str) : RelO (List.lookup f [(nm, v)]) (if f = nm then some v' else none) := by
  by_cases hw : f = nm
  · subst hw
    rw [if_pos rfl]
    have q : List.lookup f [(f, v)] = some v := by simp [List.lookup]
    rw [q]
    exact r
  · rw [if_neg hw]
    have qw : (f == nm) = false := by simpa using hw
    have q2 : List.lookup f [(nm, v)] = none := by simp [List.lookup, qw]
    rw [q2]
    trivial
/-- BadText(e) -/
def tMkBt (C : Addr) (ta : TA) : L2.St → Hp → XK → Prop := fun σ H Q => ta σ H fun vs H1 => ∃ v, vs = [v] ∧ ∀ d, H1 d = none → Q (.ref C) (some d) (upd H1 d (.xd [(("line" : Str), v)]))
theorem pmk_bt {X : Cx} {C fI : Addr} {x : Str} {a : Expr} {ta : TA} {p pos : Pos} {k : Nat} (T : PySem.BtX.BtTxt X.prog X.K X.mg C fI) (hr : Room k X.A) (ha : PA X [a] ta) (hg : Gl X x) (hm : X.mg x = some (.ref C)) (hdb : (x == ("__debug__" : Str)) = false)
    (he : starEach (a :: []) X.env = (false, eval a X.env) :: starEach [] X.env) (hpl : (backTo pos (starEach [] X.env)).any (·.1) = false := by rfl) :
    PMk X (.Call (.Name x p) [a] [] pos) (tMkBt C ta) := by
  intro pins s σ H Q I h
  refine wpAny_Call_Name_kw (ld_glob I hg hm ?_ hdb)
  refine PySem.W.callWith_K (h₀ := X.base) I.ok.mod.kin T.kC (thn (ha.run pos pins s σ H _ I h) fun us s1 hh => ?_) he hpl
  obtain ⟨vs, H1, I1, r1, v, ev, q1⟩ := hh
  subst ev
  refine ⟨I1.kIn, ?_⟩
  cases r1 with
  | cons rv rn =>
    rename_i v' us'
    cases rn
    show wpAny _ _ (call (.ref C) [v']) _ _ _
    have hlim := I1.nolimit
    have hG := I1.ok.mod.glob.keeps I1.bk
    obtain ⟨mb, hb1, hb2⟩ := I1.ok.mod.blt
    have hB := hb1.keeps I1.bk
    have hms : mb "super" = some (.type "super") := (hb2 "super" (by decide)).trans (by rfl)
    obtain ⟨hp, g, dr, tk, os⟩ := s1
    refine wpAny_call (PySem.BtX.bt_made T I1.kIn hlim hG hB hms (by have := hr.dp; omega) fun h' tk' e d M => ?_)
    show MkP X pins σ Q (.ref e) ⟨h', g, dr, tk', os⟩
    obtain ⟨oe, fv, hoe, hc, hd, hdat, h1⟩ := M.obj
    have hns := M.ns
    obtain ⟨G', g1, g2⟩ := restrict h' fun b => decide (b ≠ e)
    have gk : ∀ b, b ≠ e → G'.get? b = h'.get? b := fun b hb => g1 b (decide_eq_true hb)
    have ge : G'.get? e = none := g2 e (by simp)
    have old : ∀ b o, hp.get? b = some o → G'.get? b = some o := fun b o q => (gk b (Nat.ne_of_lt (Nat.lt_of_lt_of_le (Heap.lt_size q) M.new))).trans (M.keep b o q)
    have ob : ObjOk X.prog X.w (upd H1 d (.xd [(("line" : Str), v)])) G' d (.xd [(("line" : Str), v)]) :=
      ⟨_, hns.at (fun o q => (gk d M.dne).trans q), fun f => relO_one rv f⟩
    have J : Inv X pins σ (upd H1 d (.xd [(("line" : Str), v)])) ⟨G', g, dr, tk', os⟩ := I1.laid (t' := tk') old M.dbig ob
    refine ⟨e, oe, fv, ⟨G', g, dr, tk', os⟩, _, .ref C, some d, rfl, J, fun b o q => ?_, ge, hoe, ⟨hc, hd⟩, hdat, h1, ?_, rfl, I1.bare, raises_own T.exC T.tyC, q1 d (I1.hok.fresh M.dbig)⟩
    · by_cases hb : b = e
      · have q' : G'.get? b = some o := q
        rw [hb, ge] at q'; cases q'
      · exact (gk b hb).symm.trans q
    · rw [upd_ne (Ne.symm M.dne)]
      exact I1.hok.fresh M.new
/-- what is raised -/
structure RaiOk (L : LW) : Prop where
  own : ∀ c : Nat, L.T.exc[c]? = some true → L.T.flds.getD c [] = [] → ∃ (bmB : List Value) (B newId initId : String), ExcBaseFacts B newId initId bmB ∧ PySem.W.excIn L.g.K (L.g.cA c) bmB newId = true ∧ PySem.W.keepIn L.g.K (.ref (L.g.cA c)) = true ∧
    PySem.W.subIn L.g.K (.ref (L.g.cA c)) (.type "BaseException") = some true ∧ PySem.W.typeIn L.g.K (.ref (L.g.cA c)) = some (.type "type")
  line : ∀ c : Nat, L.T.exc[c]? = some true → (L.T.flds.getD c []).length = 1 → ∃ fI, PySem.BtX.BtTxt L.P L.g.K L.mg (L.g.cA c) fI ∧ L.g.flds c = [("line" : Str)]
section
variable {L : LW} {P : MP} {n : Nat} {sc : Scope} {X : Cx} {W : XK} {e : Expr}
theorem snds_rai (ok : RaiOk L) (k : Nat) : SndS L (.rai k) := fun P n sc X W st c m => by
  rw [mS_rai] at m
  split at m
  · rename_i x p mm j p2 p3 pos
    simp only [Bool.and_eq_true, decide_eq_true_eq] at m
    obtain ⟨⟨⟨⟨m1, m2⟩, m3⟩, m4⟩, m5⟩ := m
    rw [c.nm] at m1
    rw [c.T] at m2 m5
    obtain ⟨bmB, B, newId, initId, h1, h2, h3, h4, h5⟩ := ok.own k m2 m5
    refine (ps_raise c.calm c.tk (pmk_own h1 (by rw [c.K]; exact h2) (by rw [c.mg]; exact c.law.cls k x m1) (by rw [c.K]; exact h3) (raises_own (by rw [c.K]; exact h4) (by rw [c.K]; exact h5)) (c.gl m3) (okN_d m4).1)).imp fun En σ H h => ?_
    obtain ⟨F0, H0, F, S, D, r, s, h⟩ := h
    exact h F H none r (.inl ⟨rfl, rfl⟩)
  · cases m
theorem snds_raia (ok : RaiOk L) (k : Nat) (ie : IE) : SndS L (.raia k ie) := fun P n sc X W st c m => by
  rw [mS_raia] at m
  split at m
  · rename_i x p y p3 pos
    simp only [Bool.and_eq_true, decide_eq_true_eq, Bool.not_eq_true'] at m
    obtain ⟨⟨⟨⟨⟨⟨⟨m1, m2⟩, m3⟩, m4⟩, m5⟩, m6⟩, m7⟩, m8⟩ := m
    rw [c.nm] at m1
    rw [c.T] at m2 m6
    obtain ⟨fI, T, hf⟩ := ok.line k m2 m6
    have hs := star_cons m5 [] X.env
    refine (ps_raise c.calm c.tk (pmk_bt (C := L.g.cA k) (by rw [c.prog, c.K, c.mg]; exact T) c.room (pa_cons ((soundE L ie P n sc X W y c.toCtxB m7).pe m8) pa_nil hs) (c.gl m3) (by rw [c.mg]; exact c.law.cls k x m1) (okN_d m4).1 hs)).imp fun En σ H h => ?_
    obtain ⟨F0, H0, F, S, D, r, s, h⟩ := h
    rw [evS_raia] at h
    refine stepE0 r s h fun F1 H1 z v D1 r1 p s1 hx h1 => ⟨z, rfl, fun d hd => ?_⟩
    have q := r1.newF hd (o := .xd [(("line" : Str), z)]) (fun ps e => by cases e)
    refine h1 _ _ (some d) (r1.trans q) (.inr ⟨d, [z], rfl, ?_, ?_, .cons (hx.mono (same_new (r1.ext.free hd))) .nil⟩)
    · rw [hf]; exact upd_same
    · rw [hf]; rfl
  · cases m
/-! ### the record, changed -/
theorem snds_dst (t : Bool) (i : Nat) (ie : IE) : SndS L (.dst t i ie) := fun P n sc X W st c m => by
  rw [mS_dst] at m
  split at m
  · rename_i x p1 k j p2 p3 y pos
    simp only [Bool.and_eq_true, decide_eq_true_eq, Bool.not_eq_true'] at m
    obtain ⟨⟨⟨⟨⟨⟨m1, m2⟩, m3⟩, rfl⟩, m5⟩, m6⟩, m7⟩ := m
    refine (ps_dput (by have := c.units; omega) (drv_pe (i := i) c.toCtxB (by simp [m1, m2, m3])) pe_str ((soundE L ie P n sc X W y c.toCtxB m5).pe m6) (notcomp_sw m7 _ _ _)).imp fun En σ H h => ?_
    obtain ⟨F0, H0, F, S, D, r, s, h⟩ := h
    rw [evS_dst] at h
    refine stepE0 r s h fun F1 H1 v pv D1 r1 p s1 hx h1 => ?_
    obtain ⟨z, hz, h2⟩ := h1.bind.lift
    have ez : pv = .int z := by
      cases pv <;> simp [intV] at hz
      rw [hz]
    subst ez
    cases hx
    obtain ⟨hd, h3⟩ := drw_post h2
    obtain ⟨ne, fd, fl, hl, ⟨lc, e1, e2⟩, z1, z2⟩ := r1.dr
    have fin : ∀ D2 : Dr, D2.large = D1.large → D2.cells = D1.cells → RB L.g F1 H1 F1 (upd H1 L.g.d (.dK (drK L.g lc D2))) D2 := fun D2 q1 q2 => {
      ext := fun b o eb => by
        rw [upd_ne]
        · exact r1.ext b o eb
        · intro z; rw [z, fd] at eb; cases eb
      f0 := Same.refl _
      new := fun b o eb => .inl eb
      keep := fun b o eb ht h1 h2 => by rw [upd_ne h1]; exact eb
      nt := r1.nt
      tabs := fun q hq => by
        obtain ⟨ps, k1, k2, k3⟩ := r1.tabs q hq
        refine ⟨ps, ?_, k2, fun pos cv hc => ?_⟩
        · rw [upd_ne]
          · exact k1
          · intro z; rw [z, e1] at k1; cases k1
        · obtain ⟨c', k4, k5⟩ := k3 pos cv hc
          refine ⟨c', k4, ?_⟩
          rw [upd_ne]
          · exact k5
          · intro z; rw [z, e1] at k5; cases k5
      dr := ⟨ne, fd, fl, by rw [upd_ne (Ne.symm ne), q1]; exact hl, ⟨lc, upd_same, by rw [q2]; exact e2⟩, by rw [q1]; exact z1, by rw [q2]; exact z2⟩ }
    cases t with
    | true =>
      have g1 := fin { D1 with turn := z } rfl rfl
      refine ⟨_, drw_at s1 hd, _, _, rfl, DPut.k (k := .inr "turn") (kvs := drK L.g lc D1) e1 (show 4 < sizeLine by decide), ?_⟩
      rw [put_turn]
      exact h3 F1 _ σ (p.trans g1).f0 (r1.trans g1) (s1.grow g1)
    | false =>
      have g1 := fin { D1 with rest := z } rfl rfl
      refine ⟨_, drw_at s1 hd, _, _, rfl, DPut.k (k := .inr "rest") (kvs := drK L.g lc D1) e1 (show 4 < sizeLine by decide), ?_⟩
      rw [put_rest]
      exact h3 F1 _ σ (p.trans g1).f0 (r1.trans g1) (s1.grow g1)
  · cases m
/-! ### every statement -/
mutual
theorem soundS (ok : RaiOk L) : ∀ s : IS, SndS L s
  | .asg t e => snds_asg t e
  | .own i e => snds_own i e
  | .par i j oi oj a b => snds_par i j oi oj a b
  | .seti i k e => fun P n sc X W st c m => by cases (show false = true from m)
  | .app i e => snds_app i e
  | .appP i j e => snds_appP i j e
  | .pop i j => snds_pop i j
  | .exp e => snds_exp e
  | .ret e => snds_ret e
  | .retn => snds_retn
  | .iff c a b => snds_iff (soundB ok a) (soundB ok b)
  | .for_ t it b => snds_for (soundB ok b)
  | .whl c b => snds_whl (soundB ok b)
  | .brk => snds_brk
  | .cnt => snds_cnt
  | .pas => snds_pas
  | .rai c => snds_rai ok c
  | .raia c e => snds_raia ok c e
  | .dst t i e => snds_dst t i e
  | .frz i => fun P n sc X W st c m => by cases (show false = true from m)
termination_by structural s => s
theorem soundB (ok : RaiOk L) : ∀ b : IB, SndB L b
  | .nil => sndb_nil
  | .cons s b => sndb_cons (soundS ok s) (soundB ok b)
termination_by structural b => b
end
end
end BA
/-! BaFun -/
set_option linter.all false
set_option maxRecDepth 100000
set_option maxHeartbeats 1000000
/-! BaFun: a def keeps its promise. -/
namespace BA
open PySem PySem.Spec PyProof.Rows L2 LamX
section
variable {L : LW} {n : Nat}
theorem start_sl {g : GD} {F0 H0 F H : Hp} {D : Dr} {vs : List V} {pvs : List PV} (N : List Str) (r : RB g F0 H0 F H D) (ra : RepAll g F vs pvs) (hl : vs.length ≤ N.length) : SL g H F H (L2.start N vs) (pvs.map .val ++ List.replicate (N.length - pvs.length) .non) := by
  have e := ra.length
  have hst : L2.start N vs = vs.map some ++ List.replicate (N.length - vs.length) none := rfl
  have at_ : ∀ (i : Nat) (sv : SV), (pvs.map SV.val ++ List.replicate (N.length - pvs.length) .non)[i]? = some sv → (∃ v, pvs[i]? = some v ∧ sv = .val v) ∨ sv = .non := fun i sv h => by
    rw [List.getElem?_append] at h
    split at h
    · rw [List.getElem?_map] at h
      obtain ⟨v, h1, h2⟩ := Option.map_eq_some_iff.mp h
      exact .inl ⟨v, h1, h2.symm⟩
    · rw [List.getElem?_replicate] at h
      split at h
      · exact .inr (Option.some.inj h).symm
      · cases h
  refine ⟨?_, fun i v h => ?_, fun i v h => ?_, fun i j a v w nij h1 h2 => ?_⟩
  · rw [hst]
    simp only [List.length_append, List.length_map, List.length_replicate]
    omega
  · rcases at_ i _ h with ⟨w, h1, h2⟩ | h2
    · cases h2
      obtain ⟨x, h3, h4⟩ := ra.getD h1
      refine ⟨x, ?_, h4⟩
      have hi : i < vs.length := (List.getElem?_eq_some_iff.mp h3).1
      rw [hst, List.getElem?_append_left (by rw [List.length_map]; exact hi), List.getElem?_map, h3]
      rfl
    · cases h2
  · rcases at_ i _ h with ⟨w, h1, h2⟩ | h2 <;> cases h2
  · rcases at_ i _ h1 with ⟨w, h3, h4⟩ | h4 <;> cases h4
/-- a place where lambdas are made -/
def LamAt (L : LW) (name : Str) (cdv : Value) : Prop := ∃ c p : Addr, cdv = .ref c ∧ TabB L.base L.mg c p ∧ (p, (name ++ ".<locals>.") ++ "<lambda>") ∈ L.g.Tb ∧ ∀ q ∈ L.g.Tb, q.1 = p → q.2 = (name ++ ".<locals>.") ++ "<lambda>"
/-- what follows the body -/
theorem fin_ends {g : GD} {E : XK} {F H : Hp} {D : Dr} {Q : VK} {m : M Fl} (h : PostM g E F H (fun v D' => Fin g F H D' Q v) ((m >>= finV) D)) : PostM g E F H (FinS g F H F { nx := fun _ H' => Q .non H', rt := Q }) (m D) := h.bind.mono fun fl D1 q => by
  cases fl with
  | nx S' => exact fun F' H' σ' _ r _ => q F' H' .non r .non
  | rt v => exact fun F' H' x _ r hx => q F' H' x r hx
  | bk S' => exact (PostM.lift (p := none) q).elim fun _ z => nomatch z.1
  | ct S' => exact (PostM.lift (p := none) q).elim fun _ z => nomatch z.1
theorem def_code (law : LWOk L) (clo : ClsOk L) (rai : RaiOk L) (hn : Fns L n) {f : Nat} {q : Str × List Str} {d : FD} {params : Arguments} {body : List Stmt} {scope : Scope} {lam : Bool} (hF : L.F[f]? = some (.code d)) (F : FunD L.g.K d.name d.name params body scope [] [] (L.fA f) (L.fD f))
    (S : FnScope d.N q.2 scope) (hnp : d.np = q.2.length) (m : mB d.body ⟨L.nm, L.T, d.N, lam⟩ scope body = true) (hlam : lam = true → CauOk L ∧ ∀ (oc dV kV doc pm cdv ct : Value) (od an : Option Addr) (osl : Array (Option Value)), L.g.K.lookup (L.fA f) = some ⟨oc, od, .func (PySem.W.fnOf d.name d.name params body scope dV kV doc pm an cdv ct), osl⟩ → PySem.W.codeIn L.g.K cdv d.name = true → LamAt L d.name cdv) :
    FnOk L.P L.w L.g.K L.mg L.base (L2.CX L.P L.w) (3 * (n + 1)) (L.fA f) (L.fD f) q.2 (spI L (n + 1) f q.2.length) := by
  obtain ⟨oc, od, dV, kV, doc, pm, an, cdv, ct, osl, hfd, lk, hcd, _, _⟩ := F.ex
  rw [hfd] at lk ⊢
  have hfn := fn_of (P := L.P) (w := L.w) (mg := L.mg) (base := L.base) (CX := L2.CX L.P L.w) (k := 3 * n + 2) (sp := spI L (n + 1) f q.2.length) lk hcd S (fun vs H Q E h => h.1) fun A outer s H vs Q E hr hsp => ?_
  · exact hfn
  · obtain ⟨hl, F0, H0, F', D, pvs, r, ra, hp⟩ := hsp
    have hc : L.call (n + 1) f pvs = (evB L.T (L.call n) d.body (pvs.map .val ++ List.replicate (d.N.length - pvs.length) .non) >>= finV) := by
      show callN L.T L.F (n + 1) f pvs = _
      unfold callN
      rw [hF]
      simp only
      rw [if_pos (by rw [← ra.length, hl, hnp])]
      rfl
    rw [hc] at hp
    have hpl : q.2.length ≤ d.N.length := by
      have := congrArg List.length S.pre
      rw [List.length_take] at this
      omega
    refine ⟨tSs L n E d.body, soundB rai d.body ⟨L.nm, L.T, d.N, lam⟩ n scope _ E body ⟨⟨law, clo, hn, rfl, rfl, rfl, rfl, rfl, rfl, rfl, rfl, S.nd, rfl, rfl, S.kind, hr.mono (by omega), takes_of rfl rfl rfl rfl, fun hl => ?_⟩, fun _ => rfl, passes_of rfl⟩ m, F', H, F', _, D, r.refl, start_sl d.N r ra (by rw [hl]; exact hpl), fin_ends hp⟩
    obtain ⟨h1, h2⟩ := hlam hl
    obtain ⟨c, p, rfl, h3, h4, h5⟩ := h2 _ _ _ _ _ _ _ _ _ _ lk hcd
    exact ⟨h1, c, p, h3, rfl, h4, h5, hr⟩
end
end BA
/-! BaKb -/
set_option Elab.async false
set_option linter.all false
set_option maxRecDepth 100000
set_option maxHeartbeats 1000000
/-! BaKb: binding of parameters without defaults, by place and by name. -/
namespace BA
open PySem L2
section
variable {x q : Str} {body : List Stmt} {scope : Scope} {kV doc pm cdv ct : Value} {an : Option Addr}
theorem kb_1_0 {a : Str} {p0 : Pos} {u0 : Value}  : bindArgs (PySem.W.fnOf x q (mkA [(a, p0)]) body scope .none kV doc pm an cdv ct) ⟨[], [(a, u0)]⟩ = pure [(a, u0)] := by
  simp [bindArgs, mkA, seqItems?, List.lookup]
  rfl
theorem kb_1_1 {a : Str} {p0 : Pos} {u0 : Value}  : bindArgs (PySem.W.fnOf x q (mkA [(a, p0)]) body scope .none kV doc pm an cdv ct) ⟨[u0], []⟩ = pure [(a, u0)] := by
  simp [bindArgs, mkA, seqItems?, List.lookup]
  rfl
theorem kb_2_0 {a b : Str} {p0 p1 : Pos} {u0 u1 : Value} (h01 : a ≠ b) : bindArgs (PySem.W.fnOf x q (mkA [(a, p0), (b, p1)]) body scope .none kV doc pm an cdv ct) ⟨[], [(a, u0), (b, u1)]⟩ = pure [(a, u0), (b, u1)] := by
  have e01 : (a == b) = false := by simpa using h01
  have e10 : (b == a) = false := by simpa using Ne.symm h01
  simp [bindArgs, mkA, seqItems?, List.lookup, e01, e10, h01, Ne.symm h01]
  rfl
theorem kb_2_1 {a b : Str} {p0 p1 : Pos} {u0 u1 : Value} (h01 : a ≠ b) : bindArgs (PySem.W.fnOf x q (mkA [(a, p0), (b, p1)]) body scope .none kV doc pm an cdv ct) ⟨[u0], [(b, u1)]⟩ = pure [(a, u0), (b, u1)] := by
  have e01 : (a == b) = false := by simpa using h01
  have e10 : (b == a) = false := by simpa using Ne.symm h01
  simp [bindArgs, mkA, seqItems?, List.lookup, e01, e10, h01, Ne.symm h01]
  rfl
theorem kb_2_2 {a b : Str} {p0 p1 : Pos} {u0 u1 : Value} (h01 : a ≠ b)  : bindArgs (PySem.W.fnOf x q (mkA [(a, p0), (b, p1)]) body scope .none kV doc pm an cdv ct) ⟨[u0, u1], []⟩ = pure [(a, u0), (b, u1)] := by
  have e01 : (a == b) = false := by simpa using h01
  have e10 : (b == a) = false := by simpa using Ne.symm h01
  simp [bindArgs, mkA, seqItems?, List.lookup, e01, e10, h01, Ne.symm h01]
  rfl
theorem kb_3_0 {a b c : Str} {p0 p1 p2 : Pos} {u0 u1 u2 : Value} (h01 : a ≠ b) (h02 : a ≠ c) (h12 : b ≠ c) : bindArgs (PySem.W.fnOf x q (mkA [(a, p0), (b, p1), (c, p2)]) body scope .none kV doc pm an cdv ct) ⟨[], [(a, u0), (b, u1), (c, u2)]⟩ = pure [(a, u0), (b, u1), (c, u2)] := by
  have e01 : (a == b) = false := by simpa using h01
  have e10 : (b == a) = false := by simpa using Ne.symm h01
  have e02 : (a == c) = false := by simpa using h02
  have e20 : (c == a) = false := by simpa using Ne.symm h02
  have e12 : (b == c) = false := by simpa using h12
  have e21 : (c == b) = false := by simpa using Ne.symm h12
  simp [bindArgs, mkA, seqItems?, List.lookup, e01, e10, h01, Ne.symm h01, e02, e20, h02, Ne.symm h02, e12, e21, h12, Ne.symm h12]
  rfl
theorem kb_3_1 {a b c : Str} {p0 p1 p2 : Pos} {u0 u1 u2 : Value} (h01 : a ≠ b) (h02 : a ≠ c) (h12 : b ≠ c) : bindArgs (PySem.W.fnOf x q (mkA [(a, p0), (b, p1), (c, p2)]) body scope .none kV doc pm an cdv ct) ⟨[u0], [(b, u1), (c, u2)]⟩ = pure [(a, u0), (b, u1), (c, u2)] := by
  have e01 : (a == b) = false := by simpa using h01
  have e10 : (b == a) = false := by simpa using Ne.symm h01
  have e02 : (a == c) = false := by simpa using h02
  have e20 : (c == a) = false := by simpa using Ne.symm h02
  have e12 : (b == c) = false := by simpa using h12
  have e21 : (c == b) = false := by simpa using Ne.symm h12
  simp [bindArgs, mkA, seqItems?, List.lookup, e01, e10, h01, Ne.symm h01, e02, e20, h02, Ne.symm h02, e12, e21, h12, Ne.symm h12]
  rfl
theorem kb_3_2 {a b c : Str} {p0 p1 p2 : Pos} {u0 u1 u2 : Value} (h01 : a ≠ b) (h02 : a ≠ c) (h12 : b ≠ c) : bindArgs (PySem.W.fnOf x q (mkA [(a, p0), (b, p1), (c, p2)]) body scope .none kV doc pm an cdv ct) ⟨[u0, u1], [(c, u2)]⟩ = pure [(a, u0), (b, u1), (c, u2)] := by
  have e01 : (a == b) = false := by simpa using h01
  have e10 : (b == a) = false := by simpa using Ne.symm h01
  have e02 : (a == c) = false := by simpa using h02
  have e20 : (c == a) = false := by simpa using Ne.symm h02
  have e12 : (b == c) = false := by simpa using h12
  have e21 : (c == b) = false := by simpa using Ne.symm h12
  simp [bindArgs, mkA, seqItems?, List.lookup, e01, e10, h01, Ne.symm h01, e02, e20, h02, Ne.symm h02, e12, e21, h12, Ne.symm h12]
  rfl
theorem kb_3_3 {a b c : Str} {p0 p1 p2 : Pos} {u0 u1 u2 : Value} (h01 : a ≠ b) (h02 : a ≠ c) (h12 : b ≠ c)  : bindArgs (PySem.W.fnOf x q (mkA [(a, p0), (b, p1), (c, p2)]) body scope .none kV doc pm an cdv ct) ⟨[u0, u1, u2], []⟩ = pure [(a, u0), (b, u1), (c, u2)] := by
  have e01 : (a == b) = false := by simpa using h01
  have e10 : (b == a) = false := by simpa using Ne.symm h01
  have e02 : (a == c) = false := by simpa using h02
  have e20 : (c == a) = false := by simpa using Ne.symm h02
  have e12 : (b == c) = false := by simpa using h12
  have e21 : (c == b) = false := by simpa using Ne.symm h12
  simp [bindArgs, mkA, seqItems?, List.lookup, e01, e10, h01, Ne.symm h01, e02, e20, h02, Ne.symm h02, e12, e21, h12, Ne.symm h12]
  rfl
theorem kb_4_0 {a b c d : Str} {p0 p1 p2 p3 : Pos} {u0 u1 u2 u3 : Value} (h01 : a ≠ b) (h02 : a ≠ c) (h03 : a ≠ d) (h12 : b ≠ c) (h13 : b ≠ d) (h23 : c ≠ d) : bindArgs (PySem.W.fnOf x q (mkA [(a, p0), (b, p1), (c, p2), (d, p3)]) body scope .none kV doc pm an cdv ct) ⟨[], [(a, u0), (b, u1), (c, u2), (d, u3)]⟩ = pure [(a, u0), (b, u1), (c, u2), (d, u3)] := by
  have e01 : (a == b) = false := by simpa using h01
  have e10 : (b == a) = false := by simpa using Ne.symm h01
  have e02 : (a == c) = false := by simpa using h02
  have e20 : (c == a) = false := by simpa using Ne.symm h02
  have e03 : (a == d) = false := by simpa using h03
  have e30 : (d == a) = false := by simpa using Ne.symm h03
  have e12 : (b == c) = false := by simpa using h12
  have e21 : (c == b) = false := by simpa using Ne.symm h12
  have e13 : (b == d) = false := by simpa using h13
  have e31 : (d == b) = false := by simpa using Ne.symm h13
  have e23 : (c == d) = false := by simpa using h23
  have e32 : (d == c) = false := by simpa using Ne.symm h23
  simp [bindArgs, mkA, seqItems?, List.lookup, e01, e10, h01, Ne.symm h01, e02, e20, h02, Ne.symm h02, e03, e30, h03, Ne.symm h03, e12, e21, h12, Ne.symm h12, e13, e31, h13, Ne.symm h13, e23, e32, h23, Ne.symm h23]
  rfl
theorem kb_4_1 {a b c d : Str} {p0 p1 p2 p3 : Pos} {u0 u1 u2 u3 : Value} (h01 : a ≠ b) (h02 : a ≠ c) (h03 : a ≠ d) (h12 : b ≠ c) (h13 : b ≠ d) (h23 : c ≠ d) : bindArgs (PySem.W.fnOf x q (mkA [(a, p0), (b, p1), (c, p2), (d, p3)]) body scope .none kV doc pm an cdv ct) ⟨[u0], [(b, u1), (c, u2), (d, u3)]⟩ = pure [(a, u0), (b, u1), (c, u2), (d, u3)] := by
  have e01 : (a == b) = false := by simpa using h01
  have e10 : (b == a) = false := by simpa using Ne.symm h01
  have e02 : (a == c) = false := by simpa using h02
  have e20 : (c == a) = false := by simpa using Ne.symm h02
  have e03 : (a == d) = false := by simpa using h03
  have e30 : (d == a) = false := by simpa using Ne.symm h03
  have e12 : (b == c) = false := by simpa using h12
  have e21 : (c == b) = false := by simpa using Ne.symm h12
  have e13 : (b == d) = false := by simpa using h13
  have e31 : (d == b) = false := by simpa using Ne.symm h13
  have e23 : (c == d) = false := by simpa using h23
  have e32 : (d == c) = false := by simpa using Ne.symm h23
  simp [bindArgs, mkA, seqItems?, List.lookup, e01, e10, h01, Ne.symm h01, e02, e20, h02, Ne.symm h02, e03, e30, h03, Ne.symm h03, e12, e21, h12, Ne.symm h12, e13, e31, h13, Ne.symm h13, e23, e32, h23, Ne.symm h23]
  rfl
theorem kb_4_2 {a b c d : Str} {p0 p1 p2 p3 : Pos} {u0 u1 u2 u3 : Value} (h01 : a ≠ b) (h02 : a ≠ c) (h03 : a ≠ d) (h12 : b ≠ c) (h13 : b ≠ d) (h23 : c ≠ d) : bindArgs (PySem.W.fnOf x q (mkA [(a, p0), (b, p1), (c, p2), (d, p3)]) body scope .none kV doc pm an cdv ct) ⟨[u0, u1], [(c, u2), (d, u3)]⟩ = pure [(a, u0), (b, u1), (c, u2), (d, u3)] := by
  have e01 : (a == b) = false := by simpa using h01
  have e10 : (b == a) = false := by simpa using Ne.symm h01
  have e02 : (a == c) = false := by simpa using h02
  have e20 : (c == a) = false := by simpa using Ne.symm h02
  have e03 : (a == d) = false := by simpa using h03
  have e30 : (d == a) = false := by simpa using Ne.symm h03
  have e12 : (b == c) = false := by simpa using h12
  have e21 : (c == b) = false := by simpa using Ne.symm h12
  have e13 : (b == d) = false := by simpa using h13
  have e31 : (d == b) = false := by simpa using Ne.symm h13
  have e23 : (c == d) = false := by simpa using h23
  have e32 : (d == c) = false := by simpa using Ne.symm h23
  simp [bindArgs, mkA, seqItems?, List.lookup, e01, e10, h01, Ne.symm h01, e02, e20, h02, Ne.symm h02, e03, e30, h03, Ne.symm h03, e12, e21, h12, Ne.symm h12, e13, e31, h13, Ne.symm h13, e23, e32, h23, Ne.symm h23]
  rfl
theorem kb_4_3 {a b c d : Str} {p0 p1 p2 p3 : Pos} {u0 u1 u2 u3 : Value} (h01 : a ≠ b) (h02 : a ≠ c) (h03 : a ≠ d) (h12 : b ≠ c) (h13 : b ≠ d) (h23 : c ≠ d) : bindArgs (PySem.W.fnOf x q (mkA [(a, p0), (b, p1), (c, p2), (d, p3)]) body scope .none kV doc pm an cdv ct) ⟨[u0, u1, u2], [(d, u3)]⟩ = pure [(a, u0), (b, u1), (c, u2), (d, u3)] := by
  have e01 : (a == b) = false := by simpa using h01
  have e10 : (b == a) = false := by simpa using Ne.symm h01
  have e02 : (a == c) = false := by simpa using h02
  have e20 : (c == a) = false := by simpa using Ne.symm h02
  have e03 : (a == d) = false := by simpa using h03
  have e30 : (d == a) = false := by simpa using Ne.symm h03
  have e12 : (b == c) = false := by simpa using h12
  have e21 : (c == b) = false := by simpa using Ne.symm h12
  have e13 : (b == d) = false := by simpa using h13
  have e31 : (d == b) = false := by simpa using Ne.symm h13
  have e23 : (c == d) = false := by simpa using h23
  have e32 : (d == c) = false := by simpa using Ne.symm h23
  simp [bindArgs, mkA, seqItems?, List.lookup, e01, e10, h01, Ne.symm h01, e02, e20, h02, Ne.symm h02, e03, e30, h03, Ne.symm h03, e12, e21, h12, Ne.symm h12, e13, e31, h13, Ne.symm h13, e23, e32, h23, Ne.symm h23]
  rfl
theorem kb_4_4 {a b c d : Str} {p0 p1 p2 p3 : Pos} {u0 u1 u2 u3 : Value} (h01 : a ≠ b) (h02 : a ≠ c) (h03 : a ≠ d) (h12 : b ≠ c) (h13 : b ≠ d) (h23 : c ≠ d)  : bindArgs (PySem.W.fnOf x q (mkA [(a, p0), (b, p1), (c, p2), (d, p3)]) body scope .none kV doc pm an cdv ct) ⟨[u0, u1, u2, u3], []⟩ = pure [(a, u0), (b, u1), (c, u2), (d, u3)] := by
  have e01 : (a == b) = false := by simpa using h01
  have e10 : (b == a) = false := by simpa using Ne.symm h01
  have e02 : (a == c) = false := by simpa using h02
  have e20 : (c == a) = false := by simpa using Ne.symm h02
  have e03 : (a == d) = false := by simpa using h03
  have e30 : (d == a) = false := by simpa using Ne.symm h03
  have e12 : (b == c) = false := by simpa using h12
  have e21 : (c == b) = false := by simpa using Ne.symm h12
  have e13 : (b == d) = false := by simpa using h13
  have e31 : (d == b) = false := by simpa using Ne.symm h13
  have e23 : (c == d) = false := by simpa using h23
  have e32 : (d == c) = false := by simpa using Ne.symm h23
  simp [bindArgs, mkA, seqItems?, List.lookup, e01, e10, h01, Ne.symm h01, e02, e20, h02, Ne.symm h02, e03, e30, h03, Ne.symm h03, e12, e21, h12, Ne.symm h12, e13, e31, h13, Ne.symm h13, e23, e32, h23, Ne.symm h23]
  rfl
theorem kb_5_0 {a b c d e : Str} {p0 p1 p2 p3 p4 : Pos} {u0 u1 u2 u3 u4 : Value} (h01 : a ≠ b) (h02 : a ≠ c) (h03 : a ≠ d) (h04 : a ≠ e) (h12 : b ≠ c) (h13 : b ≠ d) (h14 : b ≠ e) (h23 : c ≠ d) (h24 : c ≠ e) (h34 : d ≠ e) : bindArgs (PySem.W.fnOf x q (mkA [(a, p0), (b, p1), (c, p2), (d, p3), (e, p4)]) body scope .none kV doc pm an cdv ct) ⟨[], [(a, u0), (b, u1), (c, u2), (d, u3), (e, u4)]⟩ = pure [(a, u0), (b, u1), (c, u2), (d, u3), (e, u4)] := by
  have e01 : (a == b) = false := by simpa using h01
  have e10 : (b == a) = false := by simpa using Ne.symm h01
  have e02 : (a == c) = false := by simpa using h02
  have e20 : (c == a) = false := by simpa using Ne.symm h02
  have e03 : (a == d) = false := by simpa using h03
  have e30 : (d == a) = false := by simpa using Ne.symm h03
  have e04 : (a == e) = false := by simpa using h04
  have e40 : (e == a) = false := by simpa using Ne.symm h04
  have e12 : (b == c) = false := by simpa using h12
  have e21 : (c == b) = false := by simpa using Ne.symm h12
  have e13 : (b == d) = false := by simpa using h13
  have e31 : (d == b) = false := by simpa using Ne.symm h13
  have e14 : (b == e) = false := by simpa using h14
  have e41 : (e == b) = false := by simpa using Ne.symm h14
  have e23 : (c == d) = false := by simpa using h23
  have e32 : (d == c) = false := by simpa using Ne.symm h23
  have e24 : (c == e) = false := by simpa using h24
  have e42 : (e == c) = false := by simpa using Ne.symm h24
  have e34 : (d == e) = false := by simpa using h34
  have e43 : (e == d) = false := by simpa using Ne.symm h34
  simp [bindArgs, mkA, seqItems?, List.lookup, e01, e10, h01, Ne.symm h01, e02, e20, h02, Ne.symm h02, e03, e30, h03, Ne.symm h03, e04, e40, h04, Ne.symm h04, e12, e21, h12, Ne.symm h12, e13, e31, h13, Ne.symm h13, e14, e41, h14, Ne.symm h14, e23, e32, h23, Ne.symm h23, e24, e42, h24, Ne.symm h24, e34, e43, h34, Ne.symm h34]
  rfl
theorem kb_5_1 {a b c d e : Str} {p0 p1 p2 p3 p4 : Pos} {u0 u1 u2 u3 u4 : Value} (h01 : a ≠ b) (h02 : a ≠ c) (h03 : a ≠ d) (h04 : a ≠ e) (h12 : b ≠ c) (h13 : b ≠ d) (h14 : b ≠ e) (h23 : c ≠ d) (h24 : c ≠ e) (h34 : d ≠ e) : bindArgs (PySem.W.fnOf x q (mkA [(a, p0), (b, p1), (c, p2), (d, p3), (e, p4)]) body scope .none kV doc pm an cdv ct) ⟨[u0], [(b, u1), (c, u2), (d, u3), (e, u4)]⟩ = pure [(a, u0), (b, u1), (c, u2), (d, u3), (e, u4)] := by
  have e01 : (a == b) = false := by simpa using h01
  have e10 : (b == a) = false := by simpa using Ne.symm h01
  have e02 : (a == c) = false := by simpa using h02
  have e20 : (c == a) = false := by simpa using Ne.symm h02
  have e03 : (a == d) = false := by simpa using h03
  have e30 : (d == a) = false := by simpa using Ne.symm h03
  have e04 : (a == e) = false := by simpa using h04
  have e40 : (e == a) = false := by simpa using Ne.symm h04
  have e12 : (b == c) = false := by simpa using h12
  have e21 : (c == b) = false := by simpa using Ne.symm h12
  have e13 : (b == d) = false := by simpa using h13
  have e31 : (d == b) = false := by simpa using Ne.symm h13
  have e14 : (b == e) = false := by simpa using h14
  have e41 : (e == b) = false := by simpa using Ne.symm h14
  have e23 : (c == d) = false := by simpa using h23
  have e32 : (d == c) = false := by simpa using Ne.symm h23
  have e24 : (c == e) = false := by simpa using h24
  have e42 : (e == c) = false := by simpa using Ne.symm h24
  have e34 : (d == e) = false := by simpa using h34
  have e43 : (e == d) = false := by simpa using Ne.symm h34
  simp [bindArgs, mkA, seqItems?, List.lookup, e01, e10, h01, Ne.symm h01, e02, e20, h02, Ne.symm h02, e03, e30, h03, Ne.symm h03, e04, e40, h04, Ne.symm h04, e12, e21, h12, Ne.symm h12, e13, e31, h13, Ne.symm h13, e14, e41, h14, Ne.symm h14, e23, e32, h23, Ne.symm h23, e24, e42, h24, Ne.symm h24, e34, e43, h34, Ne.symm h34]
  rfl
theorem kb_5_2 {a b c d e : Str} {p0 p1 p2 p3 p4 : Pos} {u0 u1 u2 u3 u4 : Value} (h01 : a ≠ b) (h02 : a ≠ c) (h03 : a ≠ d) (h04 : a ≠ e) (h12 : b ≠ c) (h13 : b ≠ d) (h14 : b ≠ e) (h23 : c ≠ d) (h24 : c ≠ e) (h34 : d ≠ e) : bindArgs (PySem.W.fnOf x q (mkA [(a, p0), (b, p1), (c, p2), (d, p3), (e, p4)]) body scope .none kV doc pm an cdv ct) ⟨[u0, u1], [(c, u2), (d, u3), (e, u4)]⟩ = pure [(a, u0), (b, u1), (c, u2), (d, u3), (e, u4)] := by
  have e01 : (a == b) = false := by simpa using h01
  have e10 : (b == a) = false := by simpa using Ne.symm h01
  have e02 : (a == c) = false := by simpa using h02
  have e20 : (c == a) = false := by simpa using Ne.symm h02
  have e03 : (a == d) = false := by simpa using h03
  have e30 : (d == a) = false := by simpa using Ne.symm h03
  have e04 : (a == e) = false := by simpa using h04
  have e40 : (e == a) = false := by simpa using Ne.symm h04
  have e12 : (b == c) = false := by simpa using h12
  have e21 : (c == b) = false := by simpa using Ne.symm h12
  have e13 : (b == d) = false := by simpa using h13
  have e31 : (d == b) = false := by simpa using Ne.symm h13
  have e14 : (b == e) = false := by simpa using h14
  have e41 : (e == b) = false := by simpa using Ne.symm h14
  have e23 : (c == d) = false := by simpa using h23
  have e32 : (d == c) = false := by simpa using Ne.symm h23
  have e24 : (c == e) = false := by simpa using h24
  have e42 : (e == c) = false := by simpa using Ne.symm h24
  have e34 : (d == e) = false := by simpa using h34
  have e43 : (e == d) = false := by simpa using Ne.symm h34
  simp [bindArgs, mkA, seqItems?, List.lookup, e01, e10, h01, Ne.symm h01, e02, e20, h02, Ne.symm h02, e03, e30, h03, Ne.symm h03, e04, e40, h04, Ne.symm h04, e12, e21, h12, Ne.symm h12, e13, e31, h13, Ne.symm h13, e14, e41, h14, Ne.symm h14, e23, e32, h23, Ne.symm h23, e24, e42, h24, Ne.symm h24, e34, e43, h34, Ne.symm h34]
  rfl
theorem kb_5_3 {a b c d e : Str} {p0 p1 p2 p3 p4 : Pos} {u0 u1 u2 u3 u4 : Value} (h01 : a ≠ b) (h02 : a ≠ c) (h03 : a ≠ d) (h04 : a ≠ e) (h12 : b ≠ c) (h13 : b ≠ d) (h14 : b ≠ e) (h23 : c ≠ d) (h24 : c ≠ e) (h34 : d ≠ e) : bindArgs (PySem.W.fnOf x q (mkA [(a, p0), (b, p1), (c, p2), (d, p3), (e, p4)]) body scope .none kV doc pm an cdv ct) ⟨[u0, u1, u2], [(d, u3), (e, u4)]⟩ = pure [(a, u0), (b, u1), (c, u2), (d, u3), (e, u4)] := by
  have e01 : (a == b) = false := by simpa using h01
  have e10 : (b == a) = false := by simpa using Ne.symm h01
  have e02 : (a == c) = false := by simpa using h02
  have e20 : (c == a) = false := by simpa using Ne.symm h02
  have e03 : (a == d) = false := by simpa using h03
  have e30 : (d == a) = false := by simpa using Ne.symm h03
  have e04 : (a == e) = false := by simpa using h04
  have e40 : (e == a) = false := by simpa using Ne.symm h04
  have e12 : (b == c) = false := by simpa using h12
  have e21 : (c == b) = false := by simpa using Ne.symm h12
  have e13 : (b == d) = false := by simpa using h13
  have e31 : (d == b) = false := by simpa using Ne.symm h13
  have e14 : (b == e) = false := by simpa using h14
  have e41 : (e == b) = false := by simpa using Ne.symm h14
  have e23 : (c == d) = false := by simpa using h23
  have e32 : (d == c) = false := by simpa using Ne.symm h23
  have e24 : (c == e) = false := by simpa using h24
  have e42 : (e == c) = false := by simpa using Ne.symm h24
  have e34 : (d == e) = false := by simpa using h34
  have e43 : (e == d) = false := by simpa using Ne.symm h34
  simp [bindArgs, mkA, seqItems?, List.lookup, e01, e10, h01, Ne.symm h01, e02, e20, h02, Ne.symm h02, e03, e30, h03, Ne.symm h03, e04, e40, h04, Ne.symm h04, e12, e21, h12, Ne.symm h12, e13, e31, h13, Ne.symm h13, e14, e41, h14, Ne.symm h14, e23, e32, h23, Ne.symm h23, e24, e42, h24, Ne.symm h24, e34, e43, h34, Ne.symm h34]
  rfl
theorem kb_5_4 {a b c d e : Str} {p0 p1 p2 p3 p4 : Pos} {u0 u1 u2 u3 u4 : Value} (h01 : a ≠ b) (h02 : a ≠ c) (h03 : a ≠ d) (h04 : a ≠ e) (h12 : b ≠ c) (h13 : b ≠ d) (h14 : b ≠ e) (h23 : c ≠ d) (h24 : c ≠ e) (h34 : d ≠ e) : bindArgs (PySem.W.fnOf x q (mkA [(a, p0), (b, p1), (c, p2), (d, p3), (e, p4)]) body scope .none kV doc pm an cdv ct) ⟨[u0, u1, u2, u3], [(e, u4)]⟩ = pure [(a, u0), (b, u1), (c, u2), (d, u3), (e, u4)] := by
  have e01 : (a == b) = false := by simpa using h01
  have e10 : (b == a) = false := by simpa using Ne.symm h01
  have e02 : (a == c) = false := by simpa using h02
  have e20 : (c == a) = false := by simpa using Ne.symm h02
  have e03 : (a == d) = false := by simpa using h03
  have e30 : (d == a) = false := by simpa using Ne.symm h03
  have e04 : (a == e) = false := by simpa using h04
  have e40 : (e == a) = false := by simpa using Ne.symm h04
  have e12 : (b == c) = false := by simpa using h12
  have e21 : (c == b) = false := by simpa using Ne.symm h12
  have e13 : (b == d) = false := by simpa using h13
  have e31 : (d == b) = false := by simpa using Ne.symm h13
  have e14 : (b == e) = false := by simpa using h14
  have e41 : (e == b) = false := by simpa using Ne.symm h14
  have e23 : (c == d) = false := by simpa using h23
  have e32 : (d == c) = false := by simpa using Ne.symm h23
  have e24 : (c == e) = false := by simpa using h24
  have e42 : (e == c) = false := by simpa using Ne.symm h24
  have e34 : (d == e) = false := by simpa using h34
  have e43 : (e == d) = false := by simpa using Ne.symm h34
  simp [bindArgs, mkA, seqItems?, List.lookup, e01, e10, h01, Ne.symm h01, e02, e20, h02, Ne.symm h02, e03, e30, h03, Ne.symm h03, e04, e40, h04, Ne.symm h04, e12, e21, h12, Ne.symm h12, e13, e31, h13, Ne.symm h13, e14, e41, h14, Ne.symm h14, e23, e32, h23, Ne.symm h23, e24, e42, h24, Ne.symm h24, e34, e43, h34, Ne.symm h34]
  rfl
theorem kb_5_5 {a b c d e : Str} {p0 p1 p2 p3 p4 : Pos} {u0 u1 u2 u3 u4 : Value} (h01 : a ≠ b) (h02 : a ≠ c) (h03 : a ≠ d) (h04 : a ≠ e) (h12 : b ≠ c) (h13 : b ≠ d) (h14 : b ≠ e) (h23 : c ≠ d) (h24 : c ≠ e) (h34 : d ≠ e)  : bindArgs (PySem.W.fnOf x q (mkA [(a, p0), (b, p1), (c, p2), (d, p3), (e, p4)]) body scope .none kV doc pm an cdv ct) ⟨[u0, u1, u2, u3, u4], []⟩ = pure [(a, u0), (b, u1), (c, u2), (d, u3), (e, u4)] := by
  have e01 : (a == b) = false := by simpa using h01
  have e10 : (b == a) = false := by simpa using Ne.symm h01
  have e02 : (a == c) = false := by simpa using h02
  have e20 : (c == a) = false := by simpa using Ne.symm h02
  have e03 : (a == d) = false := by simpa using h03
  have e30 : (d == a) = false := by simpa using Ne.symm h03
  have e04 : (a == e) = false := by simpa using h04
  have e40 : (e == a) = false := by simpa using Ne.symm h04
  have e12 : (b == c) = false := by simpa using h12
  have e21 : (c == b) = false := by simpa using Ne.symm h12
  have e13 : (b == d) = false := by simpa using h13
  have e31 : (d == b) = false := by simpa using Ne.symm h13
  have e14 : (b == e) = false := by simpa using h14
  have e41 : (e == b) = false := by simpa using Ne.symm h14
  have e23 : (c == d) = false := by simpa using h23
  have e32 : (d == c) = false := by simpa using Ne.symm h23
  have e24 : (c == e) = false := by simpa using h24
  have e42 : (e == c) = false := by simpa using Ne.symm h24
  have e34 : (d == e) = false := by simpa using h34
  have e43 : (e == d) = false := by simpa using Ne.symm h34
  simp [bindArgs, mkA, seqItems?, List.lookup, e01, e10, h01, Ne.symm h01, e02, e20, h02, Ne.symm h02, e03, e30, h03, Ne.symm h03, e04, e40, h04, Ne.symm h04, e12, e21, h12, Ne.symm h12, e13, e31, h13, Ne.symm h13, e14, e41, h14, Ne.symm h14, e23, e32, h23, Ne.symm h23, e24, e42, h24, Ne.symm h24, e34, e43, h34, Ne.symm h34]
  rfl
theorem kb_all : ∀ (ps : List (Str × Pos)), (ps.map (·.1)).Nodup → ps ≠ [] → ps.length ≤ 5 → ∀ vs : List Value, vs.length = ps.length → ∀ n, n ≤ ps.length →
    bindArgs (PySem.W.fnOf x q (mkA ps) body scope .none kV doc pm an cdv ct) ⟨vs.take n, ((ps.map (·.1)).drop n).zip (vs.drop n)⟩ = pure ((ps.map (·.1)).zip vs)
  | [], _, z, _, _, _, _, _ => absurd rfl z
  | [(a, p0)], nd, _, _, [u0], _, n, hn => by
    rcases n with _ | _ | n
    · exact kb_1_0 
    · exact kb_1_1 
    · exact absurd hn (by simp only [List.length_cons, List.length_nil]; omega)
  | [(a, p0), (b, p1)], nd, _, _, [u0, u1], _, n, hn => by
    have h01 : a ≠ b := fun z => by subst z; simp at nd
    rcases n with _ | _ | _ | n
    · exact kb_2_0 h01
    · exact kb_2_1 h01
    · exact kb_2_2 h01
    · exact absurd hn (by simp only [List.length_cons, List.length_nil]; omega)
  | [(a, p0), (b, p1), (c, p2)], nd, _, _, [u0, u1, u2], _, n, hn => by
    have h01 : a ≠ b := fun z => by subst z; simp at nd
    have h02 : a ≠ c := fun z => by subst z; simp at nd
    have h12 : b ≠ c := fun z => by subst z; simp at nd
    rcases n with _ | _ | _ | _ | n
    · exact kb_3_0 h01 h02 h12
    · exact kb_3_1 h01 h02 h12
    · exact kb_3_2 h01 h02 h12
    · exact kb_3_3 h01 h02 h12
    · exact absurd hn (by simp only [List.length_cons, List.length_nil]; omega)
  | [(a, p0), (b, p1), (c, p2), (d, p3)], nd, _, _, [u0, u1, u2, u3], _, n, hn => by
    have h01 : a ≠ b := fun z => by subst z; simp at nd
    have h02 : a ≠ c := fun z => by subst z; simp at nd
    have h03 : a ≠ d := fun z => by subst z; simp at nd
    have h12 : b ≠ c := fun z => by subst z; simp at nd
    have h13 : b ≠ d := fun z => by subst z; simp at nd
    have h23 : c ≠ d := fun z => by subst z; simp at nd
    rcases n with _ | _ | _ | _ | _ | n
    · exact kb_4_0 h01 h02 h03 h12 h13 h23
    · exact kb_4_1 h01 h02 h03 h12 h13 h23
    · exact kb_4_2 h01 h02 h03 h12 h13 h23
    · exact kb_4_3 h01 h02 h03 h12 h13 h23
    · exact kb_4_4 h01 h02 h03 h12 h13 h23
    · exact absurd hn (by simp only [List.length_cons, List.length_nil]; omega)
  | [(a, p0), (b, p1), (c, p2), (d, p3), (e, p4)], nd, _, _, [u0, u1, u2, u3, u4], _, n, hn => by
    have h01 : a ≠ b := fun z => by subst z; simp at nd
    have h02 : a ≠ c := fun z => by subst z; simp at nd
    have h03 : a ≠ d := fun z => by subst z; simp at nd
    have h04 : a ≠ e := fun z => by subst z; simp at nd
    have h12 : b ≠ c := fun z => by subst z; simp at nd
    have h13 : b ≠ d := fun z => by subst z; simp at nd
    have h14 : b ≠ e := fun z => by subst z; simp at nd
    have h23 : c ≠ d := fun z => by subst z; simp at nd
    have h24 : c ≠ e := fun z => by subst z; simp at nd
    have h34 : d ≠ e := fun z => by subst z; simp at nd
    rcases n with _ | _ | _ | _ | _ | _ | n
    · exact kb_5_0 h01 h02 h03 h04 h12 h13 h14 h23 h24 h34
    · exact kb_5_1 h01 h02 h03 h04 h12 h13 h14 h23 h24 h34
    · exact kb_5_2 h01 h02 h03 h04 h12 h13 h14 h23 h24 h34
    · exact kb_5_3 h01 h02 h03 h04 h12 h13 h14 h23 h24 h34
    · exact kb_5_4 h01 h02 h03 h04 h12 h13 h14 h23 h24 h34
    · exact kb_5_5 h01 h02 h03 h04 h12 h13 h14 h23 h24 h34
    · exact absurd hn (by simp only [List.length_cons, List.length_nil]; omega)
  | _ :: _ :: _ :: _ :: _ :: _ :: _, _, _, h, _, _, _, _ => absurd h (by simp only [List.length_cons]; omega)
end
/-- the parameters of a def, without defaults, by name -/
def plainPs (a : Arguments) (ps : List Str) : Bool := decide (a.posonlyargs = []) && decide (a.args.map (·.arg) = ps) && a.vararg.isNone && decide (a.kwonlyargs = []) && decide (a.kw_defaults = []) && a.kwarg.isNone && decide (a.defaults = []) && a.args.all fun p => p.annotation.isNone
theorem plainPs_eq {a : Arguments} {ps : List Str} (h : plainPs a ps = true) : ∃ qs : List (Str × Pos), a = mkA qs ∧ qs.map (·.1) = ps := by
  obtain ⟨a1, a2, a3, a4, a5, a6, a7⟩ := a
  simp only [plainPs, Bool.and_eq_true, decide_eq_true_eq, Option.isNone_iff_eq_none, List.all_eq_true] at h
  obtain ⟨⟨⟨⟨⟨⟨⟨rfl, h2⟩, rfl⟩, rfl⟩, rfl⟩, rfl⟩, rfl⟩, h8⟩ := h
  refine ⟨a2.map fun p => (p.arg, p.pos), ?_, ?_⟩
  · unfold mkA
    congr
    rw [List.map_map]
    conv => lhs; rw [← List.map_id a2]
    refine List.map_congr_left fun p hp => ?_
    have := h8 p hp
    obtain ⟨n, an, ps⟩ := p
    simp only at this
    subst this
    rfl
  · rw [List.map_map]
    exact h2
section
variable {K : PySem.W.Frag} {x q : Str} {params : Arguments} {body : List Stmt} {scope : Scope} {f : Addr} {fd : FuncData} {ps : List Str}
theorem kb_fd (F : FunD K x q params body scope [] [] f fd) (hp : plainPs params ps = true) (nd : ps.Nodup) (h0 : ps ≠ []) (h5 : ps.length ≤ 5) {vs : List Value} (hv : vs.length = ps.length) {n : Nat} (hn : n ≤ ps.length) :
    bindArgs fd ⟨vs.take n, (ps.drop n).zip (vs.drop n)⟩ = pure (ps.zip vs) := by
  obtain ⟨qs, rfl, rfl⟩ := plainPs_eq hp
  obtain ⟨oc, od, dV, kV, doc, pm, an, cdv, ct, osl, rfl, lk, hcd, hD, hK⟩ := F.ex
  rcases hD with ⟨_, rfl⟩ | ⟨e, _⟩
  · rw [List.length_map] at hv hn h5
    exact kb_all qs nd (fun z => h0 (by rw [z]; rfl)) h5 vs hv n hn
  · exact absurd rfl e
theorem kb_binds (F : FunD K x q params body scope [] [] f fd) (hp : plainPs params ps = true) (nd : ps.Nodup) (h0 : ps ≠ []) (h5 : ps.length ≤ 5) : Binds K fd ps [] := .all fun us hl => by
  have := kb_fd F hp nd h0 h5 hl (Nat.le_refl _)
  rw [← hl, List.take_length, List.drop_eq_nil_of_le (by omega)] at this
  exact this
theorem kb_to (F : FunD K x q params body scope [] [] f fd) (hp : plainPs params ps = true) (nd : ps.Nodup) (h0 : ps ≠ []) (h5 : ps.length ≤ 5) (s : Shared) (us : List Value) (hl : us.length = ps.length) : BindsTo s fd ⟨us, []⟩ (ps.zip us) := by
  have := kb_fd F hp nd h0 h5 hl (Nat.le_refl _)
  rw [← hl, List.take_length, List.drop_eq_nil_of_le (by omega)] at this
  exact .of_eq this
theorem kb_kbn (F : FunD K x q params body scope [] [] f fd) (hp : plainPs params ps = true) (nd : ps.Nodup) (h0 : ps ≠ []) (h5 : ps.length ≤ 5) (n : Nat) (hn : n ≤ ps.length) : KBn K fd ps n (ps.drop n) (· ++ ·) (· ++ ·) where
  to := fun s us ws _ h1 h2 => by
    have hl : (us ++ ws).length = ps.length := by rw [List.length_append, h1, h2, List.length_drop]; omega
    have := kb_fd F hp nd h0 h5 hl hn
    rw [← h1, List.take_left, List.drop_left, h1] at this
    exact .of_eq this
  rel := fun h1 h2 => h1.append h2
end
end BA
/-! BaHead -/
set_option Elab.async false
set_option linter.all false
set_option maxRecDepth 100000
set_option maxHeartbeats 1000000
/-! BaHead: what the head tells, as one Bool; what follows for the world of a law. -/
namespace BA
open PySem PySem.Spec PyProof.Rows L2 LamX
/-! ### constants -/
mutual
theorem valB_ok {K : PySem.W.Frag} {g : GD} (hK : g.K = K) : ∀ {p : PV} {u : Value}, valB K p u = true → ∃ v, RelV v u ∧ ∀ F, Rep g F v p
  | .non, u, h => by
    cases u <;> first | cases (show false = true from h) | exact ⟨.non, rfl, fun F => .non⟩
  | .bl b, u, h => by
    cases u with
    | bool c =>
      have e : b = c := eq_of_beq (show (b == c) = true from h)
      subst e
      exact ⟨.bl b, rfl, fun F => .bl b⟩
    | _ => cases (show false = true from h)
  | .int i, u, h => by
    cases u with
    | int j t =>
      have e : i = j := of_decide_eq_true (show decide (i = j) = true from h)
      subst e
      exact ⟨.int i, ⟨t, rfl⟩, fun F => .int i⟩
    | _ => cases (show false = true from h)
  | .str x, u, h => by
    cases u with
    | str y t =>
      obtain ⟨h1, h2⟩ := He.ba (show (decide (x = y) && decide (x.length ≤ sizeLine)) = true from h)
      have e : x = y := of_decide_eq_true h1
      subst e
      exact ⟨.str x, ⟨t, rfl⟩, fun F => .str x (show x.length ≤ sizeLine from of_decide_eq_true h2)⟩
    | _ => cases (show false = true from h)
  | .tup vs, u, h => by
    cases u with
    | ref a =>
      have h' : (match K.lookup a with
        | some ⟨.type c, _, .seq its _, _⟩ => decide (c = "tuple") && decide (its.size ≤ sizeLine) && valsB K vs its.toList
        | _ => false) = true := h
      split at h'
      · rename_i c od its n sl q
        obtain ⟨h1, h3⟩ := He.ba h'
        obtain ⟨h1, h2⟩ := He.ba h1
        obtain ⟨ws, k1, k2⟩ := valsB_ok hK h3
        have e : c = "tuple" := of_decide_eq_true h1
        subst e
        refine ⟨.ref a, rfl, fun F => .tup (.inr ⟨_, its, n, by rw [hK]; exact q, rfl, rfl, of_decide_eq_true h2, k1⟩) (k2 F) ?_⟩
        have l1 := (k2 F).length
        have l2 := k1.length
        have l3 := of_decide_eq_true h2
        have l4 : its.toList.length = its.size := Array.length_toList
        have l3' : its.size ≤ sizeLine := l3
        omega
      · cases h'
    | _ => cases (show false = true from h)
  | .lst _, u, h => by cases (show false = true from h)
  | .dct _, u, h => by cases (show false = true from h)
  | .obj _ _, u, h => by cases (show false = true from h)
  | .exn _ _, u, h => by cases (show false = true from h)
  | .drw, u, h => by cases (show false = true from h)
theorem valsB_ok {K : PySem.W.Frag} {g : GD} (hK : g.K = K) : ∀ {ps : List PV} {us : List Value}, valsB K ps us = true → ∃ vs, Vals vs us ∧ ∀ F, RepAll g F vs ps
  | [], us, h => by
    cases us with
    | nil => exact ⟨[], .nil, fun F => .nil⟩
    | cons u us => cases (show false = true from h)
  | p :: ps, us, h => by
    cases us with
    | nil => cases (show false = true from h)
    | cons u us =>
      obtain ⟨h1, h2⟩ := He.ba (show (valB K p u && valsB K ps us) = true from h)
      obtain ⟨v, a1, a2⟩ := valB_ok hK h1
      obtain ⟨vs, b1, b2⟩ := valsB_ok hK h2
      exact ⟨v :: vs, .cons a1 b1, fun F => .cons (a2 F) (b2 F)⟩
end
/-! ### isinstance -/
def kindOf : PV → PV
  | .non => .non | .bl _ => .bl true | .int _ => .int 0 | .str _ => .str Str.empty | .tup _ => .tup [] | .lst _ => .lst [] | .dct _ => .dct []
  | .obj c _ => .obj c [] | .exn c _ => .exn c [] | .drw => .drw
theorem isOne_kind (T : Tab) (v : PV) (c : CT) : isOne T v c = isOne T (kindOf v) c := by
  cases v <;> cases c <;> rfl
theorem kT_kind (g : GD) (v : PV) : kT g v = kT g (kindOf v) := by cases v <;> rfl
theorem isaB_ok {g : GD} {T : Tab} (h : isaB g T = true) : IsaOk g T := by
  intro v c b e
  rw [isOne_kind] at e
  rw [kT_kind]
  have key : ∀ v', v' ∈ kinds T → c ∈ cts T → isOne T v' c = some b → PySem.W.kitOne g.K (kT g v') (cTv g c) = some b := fun v' h1 h2 e => by
    have := List.all_eq_true.mp (List.all_eq_true.mp h v' h1) c h2
    rw [e] at this
    exact of_decide_eq_true this
  have hc : c ∈ cts T := by
    unfold cts
    cases c with
    | own c' =>
      refine List.mem_append_right _ (List.mem_map.mpr ⟨c', List.mem_range.mpr ?_, rfl⟩)
      cases v <;> simp only [kindOf, isOne] at e
      all_goals first
        | (split at e; rename_i z; first | exact z | exact z.2)
        | cases e
      all_goals cases e
    | _ => simp
  refine key _ ?_ hc e
  unfold kinds
  cases v with
  | obj k fs =>
    refine List.mem_append_right _ (List.mem_flatMap.mpr ⟨k, List.mem_range.mpr ?_, by simp [kindOf]⟩)
    cases hx : T.exc[k]? with
    | none => cases c <;> simp [kindOf, isOne, hx] at e
    | some q => exact (List.getElem?_eq_some_iff.mp hx).1
  | exn k fs =>
    refine List.mem_append_right _ (List.mem_flatMap.mpr ⟨k, List.mem_range.mpr ?_, by simp [kindOf]⟩)
    cases hx : T.exc[k]? with
    | none => cases c <;> simp [kindOf, isOne, hx] at e
    | some q => exact (List.getElem?_eq_some_iff.mp hx).1
  | drw => cases c <;> simp [kindOf, isOne] at e
  | _ => simp [kindOf]
end BA
/-! BaHead2 -/
set_option Elab.async false
set_option linter.all false
set_option maxRecDepth 100000
set_option maxHeartbeats 1000000
/-! BaHead2: the world of a law, made of what the head tells. -/
namespace BA
open PySem PySem.Spec PyProof.Rows L2 LamX
theorem excB_ok {K : PySem.W.Frag} {D : Addr} (h : excB K D = true) : ExcC K D := by
  obtain ⟨h1, h⟩ := He.ba h
  obtain ⟨h2, h⟩ := He.ba h
  obtain ⟨h3, h⟩ := He.ba h
  obtain ⟨h4, h⟩ := He.ba h
  obtain ⟨h5, h⟩ := He.ba h
  obtain ⟨h6, h⟩ := He.ba h
  obtain ⟨h7, h8⟩ := He.ba h
  exact ⟨He.eqO_ok h1, He.eqO_ok h2, of_decide_eq_true h3, h4, He.eqO_ok h5, He.eqO_ok h6, of_decide_eq_true h7, of_decide_eq_true h8⟩
theorem objB_ok {K : PySem.W.Frag} {D : Addr} (h : objB K D = true) : ObjC K D := by
  obtain ⟨h1, h⟩ := He.ba h
  obtain ⟨a1, h1⟩ := He.ba h1
  obtain ⟨a2, h1⟩ := He.ba h1
  obtain ⟨a3, a4⟩ := He.ba h1
  obtain ⟨h5, h⟩ := He.ba h
  obtain ⟨h6, h⟩ := He.ba h
  obtain ⟨h7, h8⟩ := He.ba h
  exact ⟨⟨a1, a2, a3, He.eqO_ok a4⟩, He.eqO_ok h5, He.eqO_ok h6, of_decide_eq_true h7, of_decide_eq_true h8⟩
theorem btPs_ok {a : Arguments} (h : btPs a = true) : ∃ p1 p2, a = PySem.BtX.iA p1 p2 := by
  unfold btPs at h
  split at h
  · obtain ⟨h1, h2⟩ := He.ba h
    rw [of_decide_eq_true h1, of_decide_eq_true h2]
    exact ⟨_, _, rfl⟩
  · cases h
theorem btBody_ok {b : FuncBody} (h : btBody b = true) : ∃ m j r0 r1 r2 r3 r4 r5 q1 q2 q3 q4, b = .stmts (PySem.BtX.iB m j r0 r1 r2 r3 r4 r5 q1 q2 q3 q4) ∧ (r2.endLine == r4.line) = true := by
  unfold btBody at h
  split at h
  · obtain ⟨h1, h⟩ := He.ba h
    obtain ⟨h2, h⟩ := He.ba h
    obtain ⟨h3, h⟩ := He.ba h
    obtain ⟨h4, h⟩ := He.ba h
    obtain ⟨h5, h6⟩ := He.ba h
    rw [of_decide_eq_true h1, of_decide_eq_true h2, of_decide_eq_true h3, of_decide_eq_true h4, of_decide_eq_true h5]
    exact ⟨_, _, _, _, _, _, _, _, _, _, _, _, rfl, h6⟩
  · cases h
theorem btB_ok {prog : Program} {K : PySem.W.Frag} {h : Heap} {mg : Str → Option Value} {C : Addr} (X : K.In h) (G : h.Ns mainGlobals mg) (b : btB K prog C = true) : PySem.BtX.BtTxt prog K mg C (He.ma K C "__init__") := by
  obtain ⟨b1, b⟩ := He.ba b
  obtain ⟨b2, b⟩ := He.ba b
  obtain ⟨b3, b⟩ := He.ba b
  obtain ⟨b4, b⟩ := He.ba b
  obtain ⟨b5, b⟩ := He.ba b
  obtain ⟨b6, b⟩ := He.ba b
  obtain ⟨b7, b⟩ := He.ba b
  obtain ⟨b8, b⟩ := He.ba b
  obtain ⟨b9, b⟩ := He.ba b
  obtain ⟨b10, b⟩ := He.ba b
  obtain ⟨b11, b⟩ := He.ba b
  obtain ⟨b12, b⟩ := He.ba b
  obtain ⟨b13, b⟩ := He.ba b
  obtain ⟨b14, b⟩ := He.ba b
  obtain ⟨b15, b16⟩ := He.ba b
  refine ⟨?_, He.eqO_ok b2, He.eqO_ok b3, He.eqO_ok b4, of_decide_eq_true b5, b6, of_decide_eq_true b7, of_decide_eq_true b8, b9, PySem.W.mg_none_of X G (He.eqO_ok b10), by simpa using b11, He.eqO_ok b12, of_decide_eq_true b13, of_decide_eq_true b14, He.eqO_ok b15, ?_⟩
  · unfold btCls at b1
    split at b1
    · rename_i t dd cd sl ho
      split at b1
      · rename_i C' bm k0 k1 k2 k3 n k5 hm hs
        obtain ⟨a1, b1⟩ := He.ba b1
        obtain ⟨a2, b1⟩ := He.ba b1
        obtain ⟨a3, b1⟩ := He.ba b1
        obtain ⟨a4, b1⟩ := He.ba b1
        obtain ⟨a5, a6⟩ := He.ba b1
        have e1 := of_decide_eq_true a1
        have e2 := of_decide_eq_true a2
        have e3 := of_decide_eq_true a3
        obtain ⟨nm, bs, mro, ns, qn, hd, sn, sub, ab, col, del⟩ := cd
        dsimp only at hm a4 a5
        have e4 : del = false := by simpa using a4
        subst hm e1 e2 e3 e4 a5
        have hsl : sl = #[k0, k1, k2, k3, some (.builtin "ValueError.__new__"), k5] := by
          obtain ⟨l⟩ := sl
          simp only at hs
          rw [hs]
        subst hsl
        exact ⟨nm, qn, ns, bs, bm, sn, sub, ab, col, dd, k0, k1, k2, k3, k5, ho, a6⟩
      · cases b1
    · cases b1
  · unfold btFn at b16
    split at b16
    · rename_i oc od fd osl ho
      obtain ⟨c1, w1⟩ := He.ba b16
      obtain ⟨c2, w2⟩ := He.ba w1
      obtain ⟨c3, w3⟩ := He.ba w2
      obtain ⟨c4, w4⟩ := He.ba w3
      obtain ⟨c5, w5⟩ := He.ba w4
      obtain ⟨c6, w6⟩ := He.ba w5
      obtain ⟨c7, w7⟩ := He.ba w6
      obtain ⟨c8, w8⟩ := He.ba w7
      obtain ⟨c9, w9⟩ := He.ba w8
      obtain ⟨n1, n2, n3, n4, n5, n6, n7, n8, n9, n10, n11, n12, n13, n14, n15⟩ := fd
      dsimp only at c1 c2 c3 c4 c5 c6 c7 c8 c9 w9
      split at w9
      · rename_i x cc cda
        obtain ⟨d1, y1⟩ := He.ba w9
        obtain ⟨d2, y2⟩ := He.ba y1
        obtain ⟨d3, d4⟩ := He.ba y2
        obtain ⟨p1, p2, e3⟩ := btPs_ok c3
        obtain ⟨m, j, r0, r1, r2, r3, r4, r5, q1, q2, q3, q4, e4, e5⟩ := btBody_ok c4
        have f1 := of_decide_eq_true c1
        have f2 := of_decide_eq_true c2
        have f5 := of_decide_eq_true c5
        have f6 := of_decide_eq_true c6
        have f7 := of_decide_eq_true c7
        have f8 := of_decide_eq_true c8
        have f9 := of_decide_eq_true c9
        have f10 := of_decide_eq_true d1
        subst e3 e4 f1 f2 f5 f6 f7 f8 f9 f10
        split at d3
        · rename_i cl cld v csl hcc
          have ev := of_decide_eq_true d3
          subst ev
          split at d4
          · rename_i ccl ccd vs ccs hcd
            split at d4
            · rename_i f tf hv
              exact ⟨oc, n14, cl, ccl, od, n12, cld, ccd, n10, n11, osl, csl, ccs, vs, f, tf, cda, cc, m, j, p1, p2, r0, r1, r2, r3, r4, r5, q1, q2, q3, q4, ho, d2, hcc, hcd, hv, d4, e5⟩
            · cases d4
          · cases d4
        · cases d3
      · cases w9
    · cases b16
end BA
/-! BaHead3 -/
set_option Elab.async false
set_option linter.all false
set_option maxRecDepth 100000
set_option maxHeartbeats 1000000
/-! BaHead3: the head's Bool gives the world of a law; each def keeps its promise. -/
namespace BA
open PySem PySem.Spec PyProof.Rows L2 LamX
/-! ### the text -/
def scopeB (N ps : List Str) (sc : Scope) : Bool := decide (sc.kind = .function) && (!sc.isCoroutine && (!sc.isGenerator && (decide N.Nodup && (decide (N.take ps.length = ps) && ((ps.all fun x => decide (sc.names.lookup x = some .local) || decide (sc.names.lookup x = some .cell)) && sc.names.all fun y => !decide (y.2 = .free))))))
theorem scopeB_ok {N ps : List Str} {sc : Scope} (h : scopeB N ps sc = true) : FnScope N ps sc := by
  obtain ⟨h1, h⟩ := He.ba h
  obtain ⟨h2, h⟩ := He.ba h
  obtain ⟨h3, h⟩ := He.ba h
  obtain ⟨h4, h⟩ := He.ba h
  obtain ⟨h5, h⟩ := He.ba h
  obtain ⟨h6, h7⟩ := He.ba h
  refine ⟨of_decide_eq_true h1, by simpa using h2, by simpa using h3, of_decide_eq_true h4, of_decide_eq_true h5, fun x hx => ?_, fun y hy => ?_⟩
  · have := List.all_eq_true.mp h6 x hx
    simpa using this
  · have := List.all_eq_true.mp h7 y hy
    simpa using this
def defB (nm : NM) (T : Tab) (lams : List Str) (q : Str × List Str) (c : FD × Bool) (D : He.DefD) : Bool :=
  decide (D.at_ = (q.1, none)) && (decide (D.name = q.1) && (decide (D.qual = q.1) && (D.dfl.isEmpty && (D.kwd.isEmpty && (decide (c.1.name = q.1) && (plainPs D.params q.2 && (decide q.2.Nodup && (!q.2.isEmpty && (decide (q.2.length ≤ 5) &&
  (scopeB c.1.N q.2 D.scope && (decide (c.1.np = q.2.length) && (mB c.1.body ⟨nm, T, c.1.N, c.2⟩ D.scope D.body && (!c.2 || decide (q.1 ∈ lams))))))))))))))
structure DefOk (nm : NM) (T : Tab) (lams : List Str) (q : Str × List Str) (c : FD × Bool) (D : He.DefD) : Prop where
  at_ : D.at_ = (q.1, none)
  name : D.name = q.1
  qual : D.qual = q.1
  dfl : D.dfl = []
  kwd : D.kwd = []
  cn : c.1.name = q.1
  ps : plainPs D.params q.2 = true
  nd : q.2.Nodup
  ne : q.2 ≠ []
  l5 : q.2.length ≤ 5
  sc : FnScope c.1.N q.2 D.scope
  np : c.1.np = q.2.length
  m : mB c.1.body ⟨nm, T, c.1.N, c.2⟩ D.scope D.body = true
  lam : c.2 = true → q.1 ∈ lams
theorem defB_ok {nm : NM} {T : Tab} {lams : List Str} {q : Str × List Str} {c : FD × Bool} {D : He.DefD} (h : defB nm T lams q c D = true) : DefOk nm T lams q c D := by
  obtain ⟨h1, h⟩ := He.ba h
  obtain ⟨h2, h⟩ := He.ba h
  obtain ⟨h3, h⟩ := He.ba h
  obtain ⟨h4, h⟩ := He.ba h
  obtain ⟨h5, h⟩ := He.ba h
  obtain ⟨h6, h⟩ := He.ba h
  obtain ⟨h7, h⟩ := He.ba h
  obtain ⟨h8, h⟩ := He.ba h
  obtain ⟨h9, h⟩ := He.ba h
  obtain ⟨h10, h⟩ := He.ba h
  obtain ⟨h11, h⟩ := He.ba h
  obtain ⟨h12, h⟩ := He.ba h
  obtain ⟨h13, h14⟩ := He.ba h
  refine ⟨of_decide_eq_true h1, of_decide_eq_true h2, of_decide_eq_true h3, List.isEmpty_iff.mp h4, List.isEmpty_iff.mp h5, of_decide_eq_true h6, h7, of_decide_eq_true h8, fun z => ?_, of_decide_eq_true h10, scopeB_ok h11, of_decide_eq_true h12, h13, fun z => ?_⟩
  · rw [z] at h9; cases h9
  · rw [z] at h14
    simpa using h14
def allB (nm : NM) (T : Tab) (lams : List Str) : List (Str × List Str) → List (FD × Bool) → List He.DefD → Bool
  | [], [], [] => true
  | q :: qs, c :: cs, D :: Ds => defB nm T lams q c D && allB nm T lams qs cs Ds
  | _, _, _ => false
theorem allB_at {nm : NM} {T : Tab} {lams : List Str} : ∀ {qs : List (Str × List Str)} {cs : List (FD × Bool)} {Ds : List He.DefD}, allB nm T lams qs cs Ds = true → ∀ {f : Nat} {q : Str × List Str}, qs[f]? = some q →
    ∃ c D, cs[f]? = some c ∧ Ds[f]? = some D ∧ DefOk nm T lams q c D
  | [], _, _, _, f, q, e => by simp at e
  | q0 :: qs, [], _, h, f, q, e => by cases h
  | q0 :: qs, c :: cs, [], h, f, q, e => by cases h
  | q0 :: qs, c :: cs, D :: Ds, h, f, q, e => by
    obtain ⟨h1, h2⟩ := He.ba (show (defB nm T lams q0 c D && allB nm T lams qs cs Ds) = true from h)
    cases f with
    | zero => cases e; exact ⟨c, D, rfl, rfl, defB_ok h1⟩
    | succ f => exact allB_at h2 (f := f) e
/-! ### the world -/
section
variable (Dt : Dat) (K : PySem.W.Frag)
def Dat.law (w : World) (base : Heap) (mg : Str → Option Value) (d l : Addr) : LW := ⟨Dt.prog, w, base, mg, Dt.gd K d l, Dt.T, Dt.nm, Dt.F, Dt.fA K, Dt.fD K⟩
/-- what the head tells -/
structure Told (w : World) (base : Heap) (mg : Str → Option Value) (cau beg : He.DefD) : Prop where
  X : K.In base
  G : base.Ns mainGlobals mg
  ex : Dt.exB K = true
  defs : ∀ D ∈ Dt.ds ++ [cau, beg], ∃ fd, FunD K D.name D.qual D.params D.body D.scope (D.dvs K) (D.kws K) (He.fAd K D.at_) fd
  all : allB Dt.nm Dt.T Dt.lams Dt.nm.fns Dt.code Dt.ds = true
  fldd : Dt.nm.fld.Nodup
  tab : ∀ p ∈ Dt.cs K, TabB base mg p.1 p.2
end
section
variable {Dt : Dat} {K : PySem.W.Frag} {w : World} {base : Heap} {mg : Str → Option Value} {cau beg : He.DefD}
theorem fD_eq {f : Nat} {oc : Value} {od : Option Addr} {fd : FuncData} {osl : Array (Option Value)} (h : K.lookup (Dt.fA K f) = some ⟨oc, od, .func fd, osl⟩) : Dt.fD K f = fd := by
  unfold Dat.fD
  rw [h]
theorem Told.fun_ (t : Told Dt K w base mg cau beg) {f : Nat} {q : Str × List Str} (hq : Dt.nm.fns[f]? = some q) : ∃ c D, Dt.code[f]? = some c ∧ DefOk Dt.nm Dt.T Dt.lams q c D ∧ FunD K q.1 q.1 D.params D.body D.scope [] [] (Dt.fA K f) (Dt.fD K f) := by
  obtain ⟨c, D, h1, h2, h3⟩ := allB_at t.all hq
  obtain ⟨fd, F⟩ := t.defs D (List.mem_append_left _ (List.mem_of_getElem? h2))
  have e1 : D.dvs K = [] := by unfold He.DefD.dvs; rw [h3.dfl]; rfl
  have e2 : D.kws K = [] := by unfold He.DefD.kws; rw [h3.kwd]; rfl
  have e3 : He.fAd K D.at_ = Dt.fA K f := by
    rw [h3.at_]
    show He.ga K q.1 = _
    unfold Dat.fA
    rw [List.getD_eq_getElem?_getD, hq]
    rfl
  rw [e1, e2, e3, h3.name, h3.qual] at F
  obtain ⟨oc, od, dV, kV, doc, pm, an, cdv, ct, osl, hfd, lk, hcd, hx⟩ := F.ex
  rw [fD_eq lk]
  exact ⟨c, D, h1, h3, F⟩
theorem Told.ok (t : Told Dt K w base mg cau beg) (d l : Addr) : LWOk (Dt.law K w base mg d l) := by
  obtain ⟨x1, e⟩ := He.ba t.ex
  obtain ⟨x2, e⟩ := He.ba e
  obtain ⟨x3, e⟩ := He.ba e
  obtain ⟨x4, e⟩ := He.ba e
  obtain ⟨x5, e⟩ := He.ba e
  refine ⟨fun k p hp => ?_, fun x hx => ?_, fun f q hq => ?_, fun f q n hq hn => ?_, fun f q fe hq hf => ?_, isaB_ok (g := Dt.gd K d l) x5, fun k x hx => ?_⟩
  · have h := List.all_eq_true.mp x1 p (List.mem_of_getElem? hp)
    cases hn : PySem.W.nsIn K mainGlobals p.1 with
    | none => rw [hn] at h; cases h
    | some o =>
      rw [hn] at h
      cases o with
      | none => cases h
      | some u =>
        obtain ⟨v, h1, h2⟩ := valB_ok (g := Dt.gd K d l) rfl h
        exact ⟨u, v, PySem.W.mg_of t.X t.G hn, h1, h2⟩
  · exact He.free_ok t.X t.G (List.all_eq_true.mp x2 x hx)
  · obtain ⟨c, D, h1, h2, F⟩ := t.fun_ hq
    refine ⟨?_, F.kp, kb_binds F h2.ps h2.nd h2.ne h2.l5⟩
    have := He.glo_ok t.X t.G (List.all_eq_true.mp x3 q (List.mem_of_getElem? hq))
    show mg q.1 = some (.ref (Dt.fA K f))
    rw [this]
    unfold Dat.fA
    rw [List.getD_eq_getElem?_getD, show Dt.nm.fns[f]? = some q from hq]
    rfl
  · obtain ⟨c, D, h1, h2, F⟩ := t.fun_ hq
    exact kb_kbn F h2.ps h2.nd h2.ne h2.l5 n hn
  · obtain ⟨c, D, h1, h2, F⟩ := t.fun_ hq
    have hf' : (Dt.code.map fun p => FE.code p.1)[f]? = some fe := hf
    rw [List.getElem?_map, h1] at hf'
    cases hf'
    exact h2.np
  · have := He.glo_ok t.X t.G (List.all_eq_true.mp x4 x (List.mem_of_getElem? hx))
    show mg x = some (.ref (Dt.cA K k))
    rw [this]
    unfold Dat.cA
    rw [List.getD_eq_getElem?_getD, show Dt.nm.cls[k]? = some x from hx]
    rfl
theorem Told.clsB (t : Told Dt K w base mg cau beg) {c : Nat} {b : Bool} (h : Dt.T.exc[c]? = some b) : Dt.clsB K c = true := by
  obtain ⟨x1, e⟩ := He.ba t.ex
  obtain ⟨x2, e⟩ := He.ba e
  obtain ⟨x3, e⟩ := He.ba e
  obtain ⟨x4, e⟩ := He.ba e
  obtain ⟨x5, e⟩ := He.ba e
  obtain ⟨x6, e⟩ := He.ba e
  exact List.all_eq_true.mp x6 c (List.mem_range.mpr (List.getElem?_eq_some_iff.mp h).1)
theorem Told.exc (t : Told Dt K w base mg cau beg) {c : Nat} (h : Dt.T.exc[c]? = some true) : ExcC K (Dt.cA K c) ∧ PySem.W.exmOne K (.ref (Dt.cA K c)) (.ref (He.ga K "StopError")) = some true ∧ (match Dt.T.flds.getD c [] with
    | [] => raiB K (Dt.cA K c)
    | [_] => btB K Dt.prog (Dt.cA K c) && decide (Dt.flds c = [("line" : Str)])
    | _ => true) = true := by
  have hc := t.clsB h
  unfold Dat.clsB at hc
  rw [h] at hc
  obtain ⟨h1, hc⟩ := He.ba hc
  obtain ⟨h2, h3⟩ := He.ba hc
  exact ⟨excB_ok h1, of_decide_eq_true h2, h3⟩
theorem Told.clo (t : Told Dt K w base mg cau beg) (d l : Addr) : ClsOk (Dt.law K w base mg d l) := by
  obtain ⟨x1, e⟩ := He.ba t.ex
  obtain ⟨x2, e⟩ := He.ba e
  obtain ⟨x3, e⟩ := He.ba e
  obtain ⟨x4, e⟩ := He.ba e
  obtain ⟨x5, e⟩ := He.ba e
  obtain ⟨x6, e⟩ := He.ba e
  obtain ⟨x7, e⟩ := He.ba e
  have fl : ∀ (c f : Nat), f ∈ Dt.T.flds.getD c [] → f < Dt.nm.fld.length ∧ PySem.W.findIn K (.ref (Dt.cA K c)) (Dt.nm.fld.getD f Str.empty) = some none := fun c f hf => by
    have hc : c < Dt.T.flds.length := by
      rw [List.getD_eq_getElem?_getD] at hf
      cases hx : Dt.T.flds[c]? with
      | none => rw [hx] at hf; cases hf
      | some y => exact (List.getElem?_eq_some_iff.mp hx).1
    obtain ⟨h1, h2⟩ := He.ba (List.all_eq_true.mp (List.all_eq_true.mp x7 c (List.mem_range.mpr hc)) f hf)
    exact ⟨of_decide_eq_true h1, He.eqO_ok h2⟩
  refine ⟨fun c h => ?_, fun c h => (t.exc h).1, fun c f x hf hx => ?_, fun c => rfl, t.fldd, fun c f hf => (fl c f hf).1⟩
  · have hc := t.clsB h
    unfold Dat.clsB at hc
    rw [show Dt.T.exc[c]? = some false from h] at hc
    exact objB_ok hc
  · have := (fl c f hf).2
    rw [List.getD_eq_getElem?_getD, show Dt.nm.fld[f]? = some x from hx] at this
    exact this
theorem Told.rai (t : Told Dt K w base mg cau beg) (d l : Addr) : RaiOk (Dt.law K w base mg d l) := by
  refine ⟨fun c h hf => ?_, fun c h hf => ?_⟩
  · have h3 := (t.exc h).2.2
    rw [show Dt.T.flds.getD c [] = [] from hf] at h3
    obtain ⟨a1, h3⟩ := He.ba h3
    obtain ⟨a2, h3⟩ := He.ba h3
    obtain ⟨a3, a4⟩ := He.ba h3
    exact ⟨He.veBase, _, _, _, PySem.F.excBase_ValueError, a1, a2, of_decide_eq_true a3, of_decide_eq_true a4⟩
  · have h3 := (t.exc h).2.2
    obtain ⟨y, hy⟩ := List.length_eq_one_iff.mp hf
    rw [show Dt.T.flds.getD c [] = [y] from hy] at h3
    obtain ⟨a1, a2⟩ := He.ba h3
    exact ⟨_, btB_ok t.X t.G a1, of_decide_eq_true a2⟩
end
end BA
/-! BaHead4 -/
set_option Elab.async false
set_option linter.all false
set_option maxRecDepth 100000
set_option maxHeartbeats 1000000
/-! BaHead4: lambdas, _law_caught, every def. -/
namespace BA
open PySem PySem.Spec PyProof.Rows L2 LamX
section
variable {Dt : Dat} {K : PySem.W.Frag} {w : World} {base : Heap} {mg : Str → Option Value} {cau beg : He.DefD}
theorem Told.lamAt (t : Told Dt K w base mg cau beg) (d l : Addr) {x : Str} (hx : x ∈ Dt.lams) {oc : Value} {od : Option Addr} {fd : FuncData} {osl : Array (Option Value)} (lk : K.lookup (He.ga K x) = some ⟨oc, od, .func fd, osl⟩) (hc : PySem.W.codeIn K fd.code x = true) :
    LamAt (Dt.law K w base mg d l) x fd.code := by
  obtain ⟨c, ec⟩ := He.codeIn_ref hc
  have e1 : He.codeOf K (x, none) = c := He.codeOf_eq (p := (x, none)) lk ec
  have mem : He.cT K (x, none) ∈ Dt.cs K := List.mem_map.mpr ⟨x, hx, rfl⟩
  have hT := t.tab _ mem
  obtain ⟨x1, e⟩ := He.ba t.ex
  obtain ⟨x2, e⟩ := He.ba e
  obtain ⟨x3, e⟩ := He.ba e
  obtain ⟨x4, e⟩ := He.ba e
  obtain ⟨x5, e⟩ := He.ba e
  obtain ⟨x6, e⟩ := He.ba e
  obtain ⟨x7, e⟩ := He.ba e
  obtain ⟨x8, e⟩ := He.ba e
  have nd : ((Dt.Tb K).map (·.1)).Nodup := of_decide_eq_true x8
  have mt : ((He.cT K (x, none)).2, lamN x) ∈ Dt.Tb K := List.mem_map.mpr ⟨x, hx, rfl⟩
  refine ⟨c, (He.cT K (x, none)).2, ec, ?_, mt, fun q hq e => ?_⟩
  · have : (He.cT K (x, none)).1 = c := e1
    rw [this] at hT
    exact hT
  · have key : ∀ {l : List (Addr × Str)}, (l.map (·.1)).Nodup → ∀ {a b : Addr × Str}, a ∈ l → b ∈ l → a.1 = b.1 → a.2 = b.2 := by
      intro l
      induction l with
      | nil => intro _ a b h; cases h
      | cons z r ih =>
        intro hn a b ha hb hab
        rw [List.map_cons, List.nodup_cons] at hn
        rcases List.mem_cons.mp ha with e1 | ha <;> rcases List.mem_cons.mp hb with e2 | hb
        · rw [e1, e2]
        · exact absurd (List.mem_map.mpr ⟨b, hb, by rw [← hab, e1]⟩) hn.1
        · exact absurd (List.mem_map.mpr ⟨a, ha, by rw [hab, e2]⟩) hn.1
        · exact ih hn.2 ha hb hab
    exact key nd hq mt e
/-- the text of _law_caught -/
structure CauS (cau : He.DefD) : Prop where
  ex : ∃ (Ng : List Str) (pg : Arguments) (sg : Scope) (a e cv : Str) (ie ic j : Nat) (p1 p2 p3 p4 p5 p6 p7 p8 p9 p10 p11 p12 p13 p14 : Pos),
    cau = ⟨("_law_caught", none), "_law_caught", "_law_caught", pg, caughtBody a e cv "StopError" j p1 p2 p3 p4 p5 p6 p7 p8 p9 p10 p11 p12 p13 p14, sg, [], []⟩ ∧ plainPs pg [a] = true ∧ FnScope Ng [a] sg ∧ Ng[0]? = some a ∧ Vis sg a ∧ Ng[ie]? = some e ∧ Ng[ic]? = some cv ∧ ie ≠ ic ∧ ie ≠ 0 ∧ ic ≠ 0 ∧
    sg.names.lookup e = some .local ∧ sg.names.lookup cv = some .local ∧ okN a = true ∧ okN e = true ∧ okN cv = true ∧ sg.names.lookup ("StopError" : Str) = some .globalImplicit
theorem Told.cauOk (t : Told Dt K w base mg cau beg) (S : CauS cau) (d l : Addr) : CauOk (Dt.law K w base mg d l) := by
  obtain ⟨Ng, pg, sg, a, e, cv, ie, ic, j, p1, p2, p3, p4, p5, p6, p7, p8, p9, p10, p11, p12, p13, p14, rfl, h1, h2, h3, h4, h5, h6, h7, h8, h9, h10, h11, h12, h13, h14, h15⟩ := S.ex
  obtain ⟨x1, z⟩ := He.ba t.ex
  obtain ⟨x2, z⟩ := He.ba z
  obtain ⟨x3, z⟩ := He.ba z
  obtain ⟨x4, z⟩ := He.ba z
  obtain ⟨x5, z⟩ := He.ba z
  obtain ⟨x6, z⟩ := He.ba z
  obtain ⟨x7, z⟩ := He.ba z
  obtain ⟨x8, z⟩ := He.ba z
  obtain ⟨x9, z⟩ := He.ba z
  obtain ⟨x10, z⟩ := He.ba z
  obtain ⟨fd, F⟩ := t.defs _ (List.mem_append_right _ (List.mem_cons_self ..))
  have hb := kb_binds (ps := [a]) F h1 (by simp) (by simp) (by simp)
  obtain ⟨oc, od, dV, kV, doc, pm, an, cdv, ct, osl, rfl, lk, hcd, _, _⟩ := F.ex
  exact ⟨He.ga K "_law_caught", He.ga K "StopError", Ng, pg, sg, oc, dV, kV, doc, pm, cdv, ct, od, an, osl, a, e, cv, "StopError", ie, ic, j, p1, p2, p3, p4, p5, p6, p7, p8, p9, p10, p11, p12, p13, p14,
    He.glo_ok t.X t.G x9, F.kp, lk, hcd, hb, h2, h3, h4, h5, h6, h7, h8, h9, h10, h11, h12, h13, h14, h15, by decide, He.glo_ok t.X t.G x10, fun c hc => (t.exc hc).2.1⟩
theorem Told.fns (t : Told Dt K w base mg cau beg) (S : CauS cau) (d l : Addr) : ∀ n, Fns (Dt.law K w base mg d l) n
  | 0 => fun f q hq => ⟨fun vs H Q E h => h.1, fun A outer s H args us vs Q E hr e0 hb r hsp => by
      obtain ⟨_, F0, H0, F, D, pvs, _, _, h⟩ := hsp
      exact h.elim⟩
  | n + 1 => fun f q hq => by
    obtain ⟨c, D, h1, h2, F⟩ := t.fun_ hq
    have hF : (Dt.law K w base mg d l).F[f]? = some (.code c.1) := by
      show (Dt.code.map fun p => FE.code p.1)[f]? = _
      rw [List.getElem?_map, h1]
      rfl
    have eA : Dt.fA K f = He.ga K q.1 := by
      unfold Dat.fA
      rw [List.getD_eq_getElem?_getD, show Dt.nm.fns[f]? = some q from hq]
      rfl
    refine def_code (t.ok d l) (t.clo d l) (t.rai d l) (t.fns S d l n) (d := c.1) (params := D.params) (body := D.body) (scope := D.scope) (lam := c.2) hF (by rw [h2.cn]; exact F) h2.sc h2.np h2.m fun hl => ⟨t.cauOk S d l, fun oc dV kV doc pm cdv ct od an osl lk hcd => ?_⟩
    rw [h2.cn] at lk hcd ⊢
    rw [show (Dt.law K w base mg d l).fA f = He.ga K q.1 from eA] at lk
    exact t.lamAt d l (h2.lam hl) lk hcd
end
end BA
/-! BaBegG -/
set_option Elab.async false
set_option linter.all false
set_option maxRecDepth 100000
set_option maxHeartbeats 1000000
/-! BaBeg: _law_begun, by hand. -/
namespace BA
open PySem PySem.Spec PyProof.Rows L2 LamX
def absI (i : Int) : Int := if i < 0 then -i else i
def begL (ns : List Int) : List Int := (ns.filter fun i => decide (10 ^ 18 ≤ absI i)).map fun i => absI i - 10 ^ 18
def begC (ns : List Int) : List Int := ns.map absI
theorem sqL_new {K : PySem.W.Frag} {H : Hp} {a D : Addr} {xs : List V} {o : HO} (hS : SqL K H a xs) (hD : H D = none) : SqL K (upd H D o) a xs := by
  rcases hS with h | h
  · refine .inl ?_
    rcases h with h | ⟨o, h⟩
    · exact .inl (by rw [upd_ne (by intro z; rw [z, hD] at h; cases h)]; exact h)
    · exact .inr ⟨o, by rw [upd_ne (by intro z; rw [z, hD] at h; cases h)]; exact h⟩
  · exact .inr h
/-- a new list of numbers, by a walk over numbers -/
theorem lc_ints {K : PySem.W.Frag} {a : Addr} {ns : List Int} {i s : Nat} {p : Int → Bool} {f : Int → Int} {tt : TT} {te : TE} {σ : L2.St} {H : Hp} {Q : VK} (hs : σ[s]? = some (some (.ref a))) (hS : SqL K H a (ns.map V.int)) (hz : ns.length ≤ sizeLine) (hi : i < σ.length)
    (ht : ∀ z H (Q : Bool → Hp → Prop), Q (p z) H → tt ((wipe σ [i]).set i (some (.int z))) H Q) (he : ∀ z H (Q : VK), Q (.int (f z)) H → te ((wipe σ [i]).set i (some (.int z))) H Q)
    (hQ : ∀ D, H D = none → Q (.ref D) (upd H D (.lst (((ns.filter p).map f).map V.int)))) : tLc (iList K (tVar s)) (gName i) tt te [i] σ H Q := by
  refine ⟨_, hs, a, rfl, ⟨_, hS⟩, fun D hD => ?_⟩
  have sq : ∀ xs, SqL K (upd H D (.lst xs)) a (ns.map V.int) := fun xs => sqL_new hS hD
  refine ⟨fun k m H' => k ≤ ns.length ∧ m = ns.length - k ∧ H' = upd H D (.lst ((((ns.take k).filter p).map f).map V.int)), ⟨_, Nat.zero_le _, rfl, rfl⟩, fun k m H' => ?_⟩
  rintro ⟨hk, rfl, rfl⟩
  by_cases hlt : k < ns.length
  · refine .inr ⟨⟨_, _, sq _, by rw [List.getElem?_map, List.getElem?_eq_getElem hlt]; rfl⟩, fun H' => H' = upd H D (.lst ((((ns.take (k + 1)).filter p).map f).map V.int)), fun H' e => ⟨_, by omega, by omega, rfl, e⟩, fun x H' hy => ?_⟩
    obtain ⟨rfl, hx⟩ := hy
    have hx1 := hx _ (sq _)
    rw [List.getElem?_map, List.getElem?_eq_getElem hlt] at hx1
    cases hx1
    refine ⟨?_, ht _ _ _ ?_⟩
    · show ((wipe σ [i]).set i _).set i none = σ.set i none
      show ((σ.set i none).set i _).set i none = σ.set i none
      rw [List.set_set, List.set_set]
    have e : ns.take (k + 1) = ns.take k ++ [ns[k]] := by rw [List.take_succ, List.getElem?_eq_getElem hlt]; rfl
    cases hp : p ns[k] with
    | true =>
      rw [if_pos rfl]
      refine he _ _ _ ⟨_, upd_same, ?_, ?_⟩
      · rw [List.length_map, List.length_map]
        have h1 := List.length_filter_le p (ns.take k)
        rw [List.length_take] at h1
        omega
      · rw [e, List.filter_append, List.filter_cons, if_pos hp, List.filter_nil, List.map_append, List.map_append]
        exact upd_upd
    | false =>
      rw [if_neg Bool.false_ne_true, e, List.filter_append, List.filter_cons, if_neg (by rw [hp]; exact Bool.false_ne_true), List.filter_nil, List.append_nil]
  · have e : k = ns.length := by omega
    subst e
    refine .inl ⟨⟨_, sq _, by rw [List.length_map]; exact Nat.le_refl _⟩, ?_⟩
    rw [List.take_length]
    exact hQ D hD
abbrev tTen : TE := tOp (rI CPow fun i j => .int (i ^ j.toNat)) (tC (.int 10)) (tC (.int 18))
abbrev rAb : List V → Hp → VK → Prop := fun xs H Q => ∃ i, xs = [.int i] ∧ Q (.int (if i < 0 then -i else i)) H
abbrev tAb : TE := tCB rAb (tCons (tVar 2) tNil)
theorem ten_ok {σ : L2.St} {H : Hp} {Q : VK} (h : Q (.int (10 ^ 18)) H) : tTen σ H Q := ⟨10, 18, rfl, rfl, ⟨by decide, by decide, by decide⟩, h⟩
theorem ab_ok {σ : L2.St} {H : Hp} {Q : VK} {z : Int} (hs : σ[2]? = some (some (.int z))) (h : Q (.int (absI z)) H) : tAb σ H Q := ⟨_, hs, z, rfl, h⟩
/-- the draw is made -/
def spBeg (K : PySem.W.Frag) : Sp := fun vs H Q _ => ∃ (a : Addr) (ns : List Int), vs = [.ref a] ∧ SqL K H a (ns.map V.int) ∧ ns.length ≤ sizeLine ∧
  ∀ l d lc, H l = none → H d = none → d ≠ l → H lc = none → lc ≠ l → lc ≠ d → Q (.ref d) (upd (upd (upd (upd H l (.lst ((begL ns).map V.int))) d (.dK [])) lc (.lst ((begC ns).map V.int))) d (.dK [(.inr "large", .ref l), (.inr "rest", .int 0), (.inr "cells", .ref lc), (.inr "turn", .int 0)]))
end BA
/-! BaHead5 -/
set_option Elab.async false
set_option linter.all false
set_option maxRecDepth 100000
set_option maxHeartbeats 1000000
/-! BaHead5: the law's own def: the draw is begun by hand, the rest by the code. -/
namespace BA
open PySem PySem.Spec PyProof.Rows L2 LamX
/-- the slots behind the first statement -/
def S0 (N : List Str) (di : Nat) (ns : List Int) : Env := ((SV.val (.lst (ns.map .int))) :: List.replicate (N.length - 1) SV.non).set di (.val .drw)
def D0 (ns : List Int) : Dr := ⟨begL ns, 0, begC ns, 0⟩
def spLaw (Dt : Dat) (K : PySem.W.Frag) (d : FD) (di n : Nat) : Sp := fun vs H Q E => ∃ (a : Addr) (ns : List Int), vs = [.ref a] ∧ (∀ p ∈ Dt.cs K, H p.2 = some (.tbl #[])) ∧ SqL K H a (ns.map V.int) ∧ ns.length ≤ sizeLine ∧
  (∃ D', evB Dt.T (callN Dt.T Dt.F n) d.body (S0 d.N di ns) (D0 ns) = some (.ok (.rt (.bl true)), D')) ∧ ∀ H', Q (.bl true) H'
section
variable {Dt : Dat} {K : PySem.W.Frag} {w : World} {base : Heap} {mg : Str → Option Value} {cau beg : He.DefD}
theorem Rep.ints {g : GD} {F : Hp} : ∀ ns : List Int, RepAll g F (ns.map V.int) (ns.map PV.int)
  | [] => .nil
  | n :: ns => .cons (.int n) (Rep.ints ns)
theorem law_fn (t : Told Dt K w base mg cau beg) (S : CauS cau) {params : Arguments} {scope : Scope} {fL fb : Addr} {fdL fdb : FuncData} {d : FD} {di n kb : Nat} {x : Str} {px p1 p2 p3 pos : Pos} {rest : List Stmt}
    (F : FunD K "law" "law" params (.Assign [.Name x px] (.Call (.Name "_law_begun" p1) [.Name "script" p2] [] p3) pos :: rest) scope [] [] fL fdL) (eL : fL = He.ga K "law") (sc : FnScope d.N ["script"] scope) (hx : d.N[di]? = some x) (hx0 : di ≠ 0) (hl : locB scope x = true)
    (hv : visB scope "script" = true) (hg : glB scope "_law_begun" = true) (m : mB d.body ⟨Dt.nm, Dt.T, d.N, true⟩ scope rest = true) (hlam : ("law" : Str) ∈ Dt.lams) (GB : FnOk Dt.prog w K mg base (L2.CX Dt.prog w) kb fb fdb ["script"] (spBeg K)) (bB : Binds K fdb ["script"] [])
    (kB : PySem.W.keepIn K (.ref fb) = true) (gB : mg "_law_begun" = some (.ref fb)) (hkb : kb ≤ 3 * n) : FnOk Dt.prog w K mg base (L2.CX Dt.prog w) (3 * n + 3) fL fdL ["script"] (spLaw Dt K d di n) := by
  obtain ⟨oc, od, dV, kV, doc, pm, an, cdv, ct, osl, hfd, lk, hcd, _, _⟩ := F.ex
  rw [hfd] at lk ⊢
  refine fn_of lk hcd sc (fun vs H Q E h => ?_) fun A outer s H vs Q E hr hsp => ?_
  · obtain ⟨a, ns, rfl, _⟩ := h
    rfl
  obtain ⟨a, ns, rfl, hT, hS, hz, ⟨D', hev⟩, hQ⟩ := hsp
  have hN0 : d.N[0]? = some ("script" : Str) := by
    have := sc.pre
    cases hN : d.N with
    | nil => rw [hN] at this; cases this
    | cons y ys =>
      rw [hN] at this
      have e : [y] = [("script" : Str)] := this
      cases e
      rfl
  have ctx : ∀ dd ll, CtxS (Dt.law K w base mg dd ll) ⟨Dt.nm, Dt.T, d.N, true⟩ n scope (cxOf (L2.CX Dt.prog w) Dt.prog w K mg base d.N "law" scope fL cdv A outer s H E) E := fun dd ll =>
    ⟨⟨t.ok dd ll, t.clo dd ll, t.fns S dd ll n, rfl, rfl, rfl, rfl, rfl, rfl, rfl, rfl, sc.nd, rfl, rfl, sc.kind, hr.mono (by omega), takes_of rfl rfl rfl rfl, fun _ => by
      have lk' := lk
      rw [eL] at lk'
      obtain ⟨c, p, h1, h3, h4, h5⟩ := t.lamAt dd ll hlam lk' hcd
      exact ⟨t.cauOk S dd ll, c, p, h3, h1, h4, h5, hr⟩⟩, fun _ => rfl, passes_of rfl⟩
  have c0 := ctx 0 0
  refine ⟨tSeq (tAsg (tCall (spBeg K) [] E (tCons (tVar 0) tNil)) (gName di)) fun En σ H => ∃ dd ll, tSs (Dt.law K w base mg dd ll) n E d.body En σ H, pss_cons ?_ ⟨fun pins s' σ H' D I h => ?_⟩, ?_⟩
  · have hp : PE (cxOf (L2.CX Dt.prog w) Dt.prog w K mg base d.N "law" scope fL cdv A outer s H E) (.Call (.Name "_law_begun" p1) [.Name "script" p2] [] p3) (tCall (spBeg K) [] E (tCons (tVar 0) tNil)) :=
      pe_call GB (hr.mono (by omega)) (c0.gl hg) gB kB bB .nil c0.passes (pa_cons (pe_var hN0 (c0.vis hv) (by decide) (by decide)) pa_nil)
    exact ps_set sc.nd hx (c0.loc hl) hp rfl (.inl rfl)
  · obtain ⟨dd, ll, h⟩ := h
    exact (soundB (t.rai dd ll) d.body _ n scope _ E rest (ctx dd ll) m).run pins s' σ H' D I h
  · have hRd : Rd H a (.lst (ns.map V.int)) := by
      rcases hS with h | ⟨o, its, k, h1, h2, _⟩
      · exact h
      · exfalso
        obtain ⟨x1, z⟩ := He.ba t.ex
        obtain ⟨x2, z⟩ := He.ba z
        obtain ⟨x3, z⟩ := He.ba z
        obtain ⟨x4, z⟩ := He.ba z
        obtain ⟨x5, z⟩ := He.ba z
        obtain ⟨x6, z⟩ := He.ba z
        obtain ⟨x7, z⟩ := He.ba z
        obtain ⟨x8, z⟩ := He.ba z
        obtain ⟨x9, z⟩ := He.ba z
        obtain ⟨x10, z⟩ := He.ba z
        obtain ⟨x11, z⟩ := He.ba z
        have := List.all_eq_true.mp z (a, o) (He.lookup_mem h1)
        simp [h2] at this
    refine ⟨_, (rfl : (L2.start d.N [V.ref a])[0]? = _), a, ns, rfl, hS, hz, fun l dd lc hl hd dl hlc nl nd => ⟨dd, l, ?_⟩⟩
    have na : ∀ b, H b = none → a ≠ b := fun b hb z => by
      rw [z] at hRd
      rcases hRd with h | ⟨o, h⟩ <;> rw [hb] at h <;> cases h
    obtain ⟨oa, ea, hoa⟩ : ∃ u, H a = some u ∧ ∀ ps, u ≠ .tbl ps := by
      rcases hRd with h | ⟨o, h⟩
      · exact ⟨_, h, fun ps z => by cases z⟩
      · exact ⟨_, h, fun ps z => by cases z⟩
    generalize hH2 : upd (upd (upd (upd H l (.lst ((begL ns).map V.int))) dd (.dK [])) lc (.lst ((begC ns).map V.int))) dd (.dK [(.inr "large", .ref l), (.inr "rest", .int 0), (.inr "cells", .ref lc), (.inr "turn", .int 0)]) = H2
    have h2d : H2 dd = some (.dK [(.inr "large", .ref l), (.inr "rest", .int 0), (.inr "cells", .ref lc), (.inr "turn", .int 0)]) := by rw [← hH2]; exact upd_same
    have h2c : H2 lc = some (.lst ((begC ns).map V.int)) := by rw [← hH2, upd_ne nd]; exact upd_same
    have h2l : H2 l = some (.lst ((begL ns).map V.int)) := by rw [← hH2, upd_ne (Ne.symm dl), upd_ne (Ne.symm nl), upd_ne (Ne.symm dl)]; exact upd_same
    have h2o : ∀ b u, H b = some u → H2 b = some u := fun b u e => by
      rw [← hH2, upd_ne (by rintro rfl; rw [hd] at e; cases e), upd_ne (by rintro rfl; rw [hlc] at e; cases e), upd_ne (by rintro rfl; rw [hd] at e; cases e), upd_ne (by rintro rfl; rw [hl] at e; cases e)]
      exact e
    have lenC : (begC ns).length ≤ sizeLine := by unfold begC; rw [List.length_map]; exact hz
    have lenL : (begL ns).length ≤ sizeLine := by
      unfold begL
      rw [List.length_map]
      exact Nat.le_trans (List.length_filter_le _ _) hz
    let F2 : Hp := fun b => if b = a then some oa else if b = lc then some (.lst ((begC ns).map V.int)) else none
    have f2a : F2 a = some oa := if_pos rfl
    have f2c : F2 lc = some (.lst ((begC ns).map V.int)) := by
      show (if lc = a then _ else _) = _
      rw [if_neg (Ne.symm (na lc hlc)), if_pos rfl]
    have f2n : ∀ b, b ≠ a → b ≠ lc → F2 b = none := fun b h1 h2 => by
      show (if b = a then _ else _) = _
      rw [if_neg h1, if_neg h2]
    have f2e : ∀ b u, F2 b = some u → (b = a ∧ u = oa) ∨ (b = lc ∧ u = .lst ((begC ns).map V.int)) := fun b u e => by
      by_cases h1 : b = a
      · rw [h1, f2a] at e
        exact .inl ⟨h1, (Option.some.inj e).symm⟩
      · by_cases h2 : b = lc
        · rw [h2, f2c] at e
          exact .inr ⟨h2, (Option.some.inj e).symm⟩
        · rw [f2n b h1 h2] at e
          cases e
    have rb : RB (Dt.law K w base mg dd l).g F2 H2 F2 H2 (D0 ns) := {
      ext := fun b u e => by
        rcases f2e b u e with ⟨rfl, rfl⟩ | ⟨rfl, rfl⟩
        · exact h2o _ _ ea
        · exact h2c
      f0 := Same.refl _
      new := fun b u e => .inl e
      keep := fun b u e _ _ _ => e
      nt := fun b ps e => by
        rcases f2e b _ e with ⟨_, h⟩ | ⟨_, h⟩
        · exact hoa ps h.symm
        · cases h
      tabs := fun q hq => by
        obtain ⟨y, hy, rfl⟩ := List.mem_map.mp hq
        exact ⟨#[], h2o _ _ (hT _ (List.mem_map.mpr ⟨y, hy, rfl⟩)), trivial, fun pos cv h => by cases h⟩
      dr := ⟨dl, f2n dd (fun z => na dd hd z.symm) (Ne.symm nd), f2n l (fun z => na l hl z.symm) (Ne.symm nl), h2l, ⟨lc, h2d, f2c⟩, lenL, lenC⟩ }
    have repA : Rep (Dt.law K w base mg dd l).g F2 (.ref a) (.lst (ns.map .int)) := by
      refine .lst (xs := ns.map V.int) ?_ (Rep.ints ns) (by rw [List.length_map]; exact hz)
      rcases hRd with h | ⟨o, h⟩
      · exact .inl (by rw [f2a, ← ea, h])
      · exact .inr ⟨o, by rw [f2a, ← ea, h]⟩
    have sl : SL (Dt.law K w base mg dd l).g H2 F2 H2 ((L2.start d.N [V.ref a]).set di (some (.ref dd))) (S0 d.N di ns) := by
      have hst : L2.start d.N [V.ref a] = some (V.ref a) :: List.replicate (d.N.length - 1) none := rfl
      have key : ∀ (i : Nat) (sv : SV), (S0 d.N di ns)[i]? = some sv → (i = di ∧ sv = .val .drw) ∨ (i = 0 ∧ sv = .val (.lst (ns.map .int))) ∨ sv = .non := fun i sv e => by
        unfold S0 at e
        by_cases h : i = di
        · subst h
          rw [List.getElem?_set_self'] at e
          obtain ⟨y, _, e⟩ := Option.map_eq_some_iff.mp e
          exact .inl ⟨rfl, e.symm⟩
        · rw [List.getElem?_set_ne (Ne.symm h)] at e
          cases i with
          | zero => cases e; exact .inr (.inl ⟨rfl, rfl⟩)
          | succ i =>
            rw [List.getElem?_cons_succ, List.getElem?_replicate] at e
            split at e
            · exact .inr (.inr (Option.some.inj e).symm)
            · cases e
      have hdi : di < ((L2.start d.N [V.ref a])).length := by
        have := (List.getElem?_eq_some_iff.mp hx).1
        rw [hst, List.length_cons, List.length_replicate]
        omega
      refine ⟨?_, fun i v e => ?_, fun i v e => ?_, fun i j b v u ij e1 e2 => ?_⟩
      · unfold S0
        rw [List.length_set, List.length_set, hst, List.length_cons, List.length_cons, List.length_replicate, List.length_replicate]
      · rcases key i _ e with ⟨rfl, h⟩ | ⟨rfl, h⟩ | h
        · cases h
          exact ⟨.ref dd, by rw [List.getElem?_set_self hdi], .drw⟩
        · cases h
          exact ⟨.ref a, by rw [List.getElem?_set_ne hx0]; rfl, repA⟩
        · cases h
      · rcases key i _ e with ⟨rfl, h⟩ | ⟨rfl, h⟩ | h <;> cases h
      · rcases key i _ e1 with ⟨rfl, h⟩ | ⟨rfl, h⟩ | h <;> cases h
    refine ⟨F2, H2, F2, S0 d.N di ns, D0 ns, rb, sl, ?_⟩
    show PostM _ E F2 H2 _ (evB Dt.T (callN Dt.T Dt.F n) d.body (S0 d.N di ns) (D0 ns))
    rw [hev]
    intro F' H' y _ _ hr
    cases hr
    exact hQ H'
end
end BA
/-! PlEq -/
set_option Elab.async false
set_option linter.all false
set_option maxRecDepth 100000
set_option maxHeartbeats 1000000
/-! PlEq: the meaning's arms once more, for simp (printed from BaEq). -/
namespace BA
open PySem L2
section
variable {T : Tab} {call : Nat → List PV → M PV}
@[simp] theorem qE_var {i S} : evE T call (.var i) S = (match S[i]? with
    | some (.val v) => pure v
    | _ => M.stuck) := rfl
@[simp] theorem qE_bvar {i S} : evE T call (.bvar i) S = (match S[i]? with
    | some (.val v) => pure v
    | some (.own v) => pure v
    | _ => M.stuck) := rfl
@[simp] theorem qE_cst {v u0} : evE T call (.cst v) u0 = (pure v) := rfl
@[simp] theorem qE_glb {k u0} : evE T call (.glb k) u0 = (match T.consts[k]? with
    | some p => pure p.2
    | none => M.stuck) := rfl
@[simp] theorem qE_tup {as S} : evE T call (.tup as) S = (evA T call as S >>= fun vs => pure (.tup vs)) := rfl
@[simp] theorem qE_tups {as S} : evE T call (.tups as) S = (evA T call as S >>= fun vs => M.lift (if vs.length ≤ sizeLine then some (.tup vs) else none)) := rfl
@[simp] theorem qE_lst {as S} : evE T call (.lst as) S = (evA T call as S >>= fun vs => pure (.lst vs)) := rfl
@[simp] theorem qE_bin {op a b S} : evE T call (.bin op a b) S = (evE T call a S >>= fun x => evE T call b S >>= fun y => M.lift (binV op x y)) := rfl
@[simp] theorem qE_neg {a S} : evE T call (.neg a) S = (evE T call a S >>= fun x => M.lift ((intV x).map fun i => .int (-i))) := rfl
@[simp] theorem qE_cmp {op a b S} : evE T call (.cmp op a b) S = (evE T call a S >>= fun x => evE T call b S >>= fun y => M.lift ((cmpV op x y).map .bl)) := rfl
@[simp] theorem qE_chn {o1 o2 a b c S} : evE T call (.chn o1 o2 a b c) S = (evE T call a S >>= fun x => evE T call b S >>= fun y => M.lift (cmpV o1 x y) >>= fun r =>
    if r = true then evE T call c S >>= fun z => M.lift ((cmpV o2 y z).map .bl) else pure (.bl false)) := rfl
@[simp] theorem qE_not {a S} : evE T call (.not a) S = (evE T call a S >>= fun x => M.lift (truV x) >>= fun b => pure (.bl (!b))) := rfl
@[simp] theorem qE_and {a b S} : evE T call (.and a b) S = (evE T call a S >>= fun x => M.lift (truV x) >>= fun c => if c = true then evE T call b S else pure (.bl false)) := rfl
@[simp] theorem qE_or {a b S} : evE T call (.or a b) S = (evE T call a S >>= fun x => M.lift (truV x) >>= fun c => if c = true then pure (.bl true) else evE T call b S) := rfl
@[simp] theorem qE_ite {c a b S} : evE T call (.ite c a b) S = (evE T call c S >>= fun x => M.lift (truV x) >>= fun d => if d = true then evE T call a S else evE T call b S) := rfl
@[simp] theorem qE_ix {a b S} : evE T call (.ix a b) S = (evE T call a S >>= fun x => evE T call b S >>= fun y => M.lift (ixV x y)) := rfl
@[simp] theorem qE_slc {a lo hi S} : evE T call (.slc a lo hi) S = (evE T call a S >>= fun x =>
    (if lo.isNil = true then pure none else evE T call lo S >>= fun v => M.lift ((intV v).map some)) >>= fun l =>
    (if hi.isNil = true then pure none else evE T call hi S >>= fun v => M.lift ((intV v).map some)) >>= fun h => M.lift (slcV x l h)) := rfl
theorem qE_nil {u0} : evE T call .nil u0 = (M.stuck) := rfl
@[simp] theorem qE_fld {a f S} : evE T call (.fld a f) S = (evE T call a S >>= fun x => M.lift (match x with
    | .obj c fs => if T.exc[c]? = some false then ((T.flds.getD c []).zip fs).lookup f else none
    | .exn c fs => if T.exc[c]? = some true then ((T.flds.getD c []).zip fs).lookup f else none
    | _ => none)) := rfl
@[simp] theorem qE_cal {f as S} : evE T call (.cal f as) S = (evA T call as S >>= fun vs => call f vs) := rfl
@[simp] theorem qE_calk {f as ks S} : evE T call (.calk f as ks) S = (evA T call as S >>= fun vs => evA T call ks S >>= fun ws => call f (vs ++ ws)) := rfl
@[simp] theorem qE_prm {p as S} : evE T call (.prm p as) S = (evA T call as S >>= fun vs => M.lift (primV p vs)) := rfl
@[simp] theorem qE_isi {a ts S} : evE T call (.isi a ts) S = (evE T call a S >>= fun x => M.lift ((isAny T x ts).map .bl)) := rfl
@[simp] theorem qE_mth {m a b S} : evE T call (.mth m a b) S = (evE T call a S >>= fun x => M.lift (strV x) >>= fun z => evE T call b S >>= fun y => M.lift (mthV m (.str z) [y])) := rfl
@[simp] theorem qE_lrng {a S} : evE T call (.lrng a) S = (evE T call a S >>= fun x => M.lift ((intV x).bind fun i => if small i then some (.lst (rangeV 0 1 i.toNat)) else none)) := rfl
theorem qE_cmp1 {t it cond elt S} : evE T call (.cmp1 t it cond elt) S = (evI T call it S >>= fun xs =>
    compL (fun x => M.noex (M.lift (bindT t x (wipeE S t.slots)) >>= fun S' =>
      (if cond.isNil = true then pure true else evE T call cond S' >>= fun v => M.lift (truV v)) >>= fun c =>
      if c = true then evE T call elt S' >>= fun v => pure (some v) else pure none)) xs >>= fun ys => pure (.lst ys)) := rfl
theorem qE_cmp2 {t it cond u iu cu elt S} : evE T call (.cmp2 t it cond u iu cu elt) S = (evI T call it S >>= fun xs =>
    compLL (fun x => M.noex (M.lift (bindT t x (wipeE S (t.slots ++ u.slots))) >>= fun S' =>
      (if cond.isNil = true then pure true else evE T call cond S' >>= fun v => M.lift (truV v)) >>= fun c =>
      if c = true then evI T call iu S' >>= fun ys => compL (fun y => M.lift (bindT u y (wipeE S' u.slots)) >>= fun S'' =>
        (if cu.isNil = true then pure true else evE T call cu S'' >>= fun v => M.lift (truV v)) >>= fun c =>
        if c = true then evE T call elt S'' >>= fun v => pure (some v) else pure none) ys
      else pure [])) xs >>= fun ys => M.lift (if ys.length ≤ sizeLine then some (.lst ys) else none)) := rfl
@[simp] theorem qE_rev {a S} : evE T call (.rev a) S = (evE T call a S >>= fun x => M.lift (match x with | .lst xs => some (.lst xs.reverse) | _ => none)) := rfl
theorem qE_cau {e S} : evE T call (.cau e) S = (fun d => match evE T call e S d with
    | some (.ok _, d') => some (.ok .non, d')
    | some (.exn c fs, d') => if T.exc[c]? = some true then some (.ok (.exn c fs), d') else none
    | none => none) := rfl
@[simp] theorem qE_drd {t i S} : evE T call (.drd t i) S = (drwM S i fun d => some (.ok (.int (if t = true then d.turn else d.rest)), d)) := rfl
@[simp] theorem qE_dcl {i S} : evE T call (.dcl i) S = (drwM S i fun d => some (.ok (.lst (d.cells.map .int)), d)) := rfl
@[simp] theorem qE_dne {i S} : evE T call (.dne i) S = (drwM S i fun d => some (.ok (.bl (!d.large.isEmpty)), d)) := rfl
@[simp] theorem qE_dpp {i S} : evE T call (.dpp i) S = (drwM S i fun d => popM d d.large) := rfl
theorem qE_nev {u0} : evE T call .nev u0 = (M.stuck) := rfl
@[simp] theorem qA_nil {u0} : evA T call .nil u0 = (pure []) := rfl
@[simp] theorem qA_cons {e as S} : evA T call (.cons e as) S = (evE T call e S >>= fun v => evA T call as S >>= fun vs => pure (v :: vs)) := rfl
@[simp] theorem qA_star {e as S} : evA T call (.star e as) S = (evE T call e S >>= fun v => M.lift (seqV v) >>= fun ws => evA T call as S >>= fun vs => pure (ws ++ vs)) := rfl
@[simp] theorem qI_seq {e S} : evI T call (.seq e) S = (evE T call e S >>= fun v => M.lift (seqV v)) := rfl
@[simp] theorem qI_rng1 {a S} : evI T call (.rng1 a) S = (evE T call a S >>= fun v => M.lift ((intV v).bind fun j => if small j then some (rangeV 0 1 j.toNat) else none)) := rfl
@[simp] theorem qI_rng2 {a b S} : evI T call (.rng2 a b) S = (evE T call a S >>= fun v => evE T call b S >>= fun w => M.lift ((intV v).bind fun i => (intV w).bind fun j => if small i && small j then some (rangeV i 1 (j - i).toNat) else none)) := rfl
@[simp] theorem qI_rng3 {a b c S} : evI T call (.rng3 a b c) S = (evE T call a S >>= fun v => evE T call b S >>= fun w => evE T call c S >>= fun u => M.lift ((intV v).bind fun i => (intV w).bind fun j => (intV u).bind fun k =>
    if small i && small j && decide (k = -1) then some (rangeV i (-1) (i - j).toNat) else none)) := rfl
@[simp] theorem qI_enm {e S} : evI T call (.enm e) S = (evE T call e S >>= fun v => M.lift (match v with | .lst xs => some (enumFrom 0 xs) | _ => none)) := rfl
@[simp] theorem qI_zip {a b S} : evI T call (.zip a b) S = (evE T call a S >>= fun v => evE T call b S >>= fun w => M.lift (match v, w with | .lst xs, .lst ys => some (zipV xs ys) | .tup xs, .tup ys => some (zipV xs ys) | _, _ => none)) := rfl
@[simp] theorem qI_chr {e S} : evI T call (.chr e) S = (evE T call e S >>= fun v => M.lift (match v with | .str z => some (z.cps.toList.map fun c => .str ⟨#[c]⟩) | _ => none)) := rfl
@[simp] theorem qS_asg {t e S} : evS T call (.asg t e) S = (evE T call e S >>= fun v => M.lift (bindT t v S) >>= fun S' => pure (.nx S')) := rfl
@[simp] theorem qS_own {i e S} : evS T call (.own i e) S = (evE T call e S >>= fun v => M.lift (slotV true v) >>= fun sv => pure (.nx (S.set i sv))) := rfl
@[simp] theorem qS_par {i j oi oj a b S} : evS T call (.par i j oi oj a b) S = (evE T call a S >>= fun v => M.lift (slotV oi v) >>= fun sa => evE T call b S >>= fun w => M.lift (slotV oj w) >>= fun sb => pure (.nx ((S.set i sa).set j sb))) := rfl
@[simp] theorem qS_seti {i k e S} : evS T call (.seti i k e) S = (evE T call e S >>= fun v => match S[i]? with
    | some (.own (.lst xs)) => evE T call k S >>= fun w => M.lift ((intV w).bind fun z => (ixN xs.length z).map fun j => xs.set j v) >>= fun ys => pure (.nx (S.set i (.own (.lst ys))))
    | _ => M.stuck) := rfl
@[simp] theorem qS_app {i e S} : evS T call (.app i e) S = (match S[i]? with
    | some (.own (.lst xs)) => evE T call e S >>= fun v => if xs.length < sizeLine then pure (.nx (S.set i (.own (.lst (xs ++ [v]))))) else M.stuck
    | _ => M.stuck) := rfl
theorem qS_appP {i j e S} : evS T call (.appP i j e) S = (match S[i]?, S[j]? with
    | some (.own (.lst xs)), some (.own (.lst ys)) => evE T call e S >>= fun v => M.lift ((intV v).bind fun z => if small z then (seqIndex? z ys.length).bind fun k => (ys[k]?).map fun y => (k, y) else none) >>= fun q =>
      if xs.length < sizeLine then pure (.nx ((S.set i (.own (.lst (xs ++ [q.2])))).set j (.own (.lst (ys.eraseIdx q.1))))) else M.stuck
    | _, _ => M.stuck) := rfl
theorem qS_pop {i j S} : evS T call (.pop i j) S = (match S[j]? with
    | some (.own (.lst xs)) => match xs[xs.length - 1]? with
      | some v => pure (.nx ((S.set j (.own (.lst xs.dropLast))).set i (.val v)))
      | none => M.stuck
    | _ => M.stuck) := rfl
@[simp] theorem qS_exp {e S} : evS T call (.exp e) S = (evE T call e S >>= fun _ => pure (.nx S)) := rfl
@[simp] theorem qS_ret {e S} : evS T call (.ret e) S = (evE T call e S >>= fun v => pure (.rt v)) := rfl
@[simp] theorem qS_retn {u0} : evS T call .retn u0 = (pure (.rt .non)) := rfl
@[simp] theorem qS_iff {c a b S} : evS T call (.iff c a b) S = (evE T call c S >>= fun v => M.lift (truV v) >>= fun d => if d = true then evB T call a S else evB T call b S) := rfl
theorem qS_for {t it b S} : evS T call (.for_ t it b) S = (evI T call it S >>= fun xs => forL (fun x S' => M.lift (bindT t x S') >>= fun S'' => evB T call b S'') xs S) := rfl
theorem qS_whl {c b S} : evS T call (.whl c b) S = (whlL (fun S' => evE T call c S' >>= fun v => M.lift (truV v)) (fun S' => evB T call b S') S) := rfl
@[simp] theorem qS_brk {S} : evS T call .brk S = (pure (.bk S)) := rfl
@[simp] theorem qS_cnt {S} : evS T call .cnt S = (pure (.ct S)) := rfl
@[simp] theorem qS_pas {S} : evS T call .pas S = (pure (.nx S)) := rfl
@[simp] theorem qS_rai {c u0} : evS T call (.rai c) u0 = (M.raise c []) := rfl
@[simp] theorem qS_raia {c e S} : evS T call (.raia c e) S = (evE T call e S >>= fun v => M.raise c [v]) := rfl
@[simp] theorem qS_frz {i S} : evS T call (.frz i) S = (match S[i]? with
    | some (.own v) => pure (.nx (S.set i (.val v)))
    | _ => M.stuck) := rfl
@[simp] theorem qS_dst {t i e S} : evS T call (.dst t i e) S = (evE T call e S >>= fun v => M.lift (intV v) >>= fun z => drwM S i fun d => some (.ok (.nx S), if t = true then { d with turn := z } else { d with rest := z })) := rfl
@[simp] theorem qB_nil {S} : evB T call .nil S = (pure (.nx S)) := rfl
@[simp] theorem qB_cons {s b S} : evB T call (.cons s b) S = (evS T call s S >>= fun f => match f with
    | .nx S' => evB T call b S'
    | .rt v => pure (.rt v)
    | .bk S' => pure (.bk S')
    | .ct S' => pure (.ct S')) := rfl
end
end BA
/-! PlWhl -/
set_option Elab.async false
set_option linter.all false
set_option maxRecDepth 100000
set_option maxHeartbeats 1000000
/-! PlWhl: a while loop, one turn at a time. -/
namespace BA
open PySem
section
variable {test : BA.Env → M Bool} {body : BA.Env → M Fl}
theorem whlN_succ (n : Nat) (S : BA.Env) : whlN test body (n + 1) S = (test S >>= fun c => if c = true then body S >>= fun f => match f with
      | .nx S' => whlN test body n S'
      | .ct S' => whlN test body n S'
      | .bk S' => pure (.nx S')
      | .rt v => pure (.rt v)
    else pure (.nx S)) := rfl
theorem M.bnd_mono {α β : Type} {m : M α} {f g : α → M β} {D : Dr} {r : Out β × Dr} (h : (m >>= f) D = some r) (k : ∀ a d, f a d = some r → g a d = some r) : (m >>= g) D = some r := by
  rw [M.bind_eq] at h ⊢
  cases e : m D with
  | none => rw [e] at h; cases h
  | some p =>
    rw [e] at h
    obtain ⟨o, d⟩ := p
    cases o with
    | ok a => exact k a d h
    | exn c fs => exact h
theorem whlN_mono : ∀ (n : Nat) (S : BA.Env) (D : Dr) (r : Out Fl × Dr), whlN test body n S D = some r → whlN test body (n + 1) S D = some r
  | 0, S, D, r, h => by cases h
  | n + 1, S, D, r, h => by
    rw [whlN_succ] at h ⊢
    refine M.bnd_mono h fun c d hc => ?_
    cases c with
    | false => exact hc
    | true =>
      rw [if_pos rfl] at hc ⊢
      refine M.bnd_mono hc fun f d2 hf => ?_
      cases f with
      | nx S' => exact whlN_mono n S' d2 r hf
      | ct S' => exact whlN_mono n S' d2 r hf
      | bk S' => exact hf
      | rt v => exact hf
theorem whlN_le {n : Nat} {S : BA.Env} {D : Dr} {r : Out Fl × Dr} (h : whlN test body n S D = some r) : ∀ k, whlN test body (n + k) S D = some r
  | 0 => h
  | k + 1 => whlN_mono _ _ _ _ (whlN_le h k)
theorem whlL_of {n : Nat} {S : BA.Env} {D : Dr} {r : Out Fl × Dr} (h : whlN test body n S D = some r) : whlL test body S D = some r := by
  have hx : ∃ n r, whlN test body n S D = some r := ⟨n, r, h⟩
  unfold whlL
  rw [dif_pos hx]
  obtain ⟨r', h'⟩ := Classical.choose_spec hx
  rw [h']
  have a := whlN_le h (Classical.choose hx)
  have b := whlN_le h' n
  rw [Nat.add_comm] at b
  rw [a] at b
  exact b.symm
theorem whlL_to {S : BA.Env} {D : Dr} {r : Out Fl × Dr} (h : whlL test body S D = some r) : ∃ n, whlN test body n S D = some r := by
  unfold whlL at h
  split at h
  · exact ⟨_, h⟩
  · cases h
theorem opt_ext {α : Type} {a b : Option α} (h1 : ∀ r, a = some r → b = some r) (h2 : ∀ r, b = some r → a = some r) : a = b := by
  cases a with
  | none => cases b with
    | none => rfl
    | some y => exact absurd (h2 y rfl) (by simp)
  | some x => exact (h1 x rfl).symm
theorem M.bnd_mono2 {α β : Type} {m : M α} {f : α → M β} {P : Prop} {D : Dr} {r : Out β × Dr} (h : (m >>= f) D = some r) (k1 : ∀ c fs d, m D = some (.exn c fs, d) → r = (.exn c fs, d) → P) (k2 : ∀ a d, m D = some (.ok a, d) → f a d = some r → P) : P := by
  rw [M.bind_eq] at h
  cases e : m D with
  | none => rw [e] at h; cases h
  | some p =>
    rw [e] at h
    obtain ⟨o, d⟩ := p
    cases o with
    | ok a => exact k2 a d e h
    | exn c fs => exact k1 c fs d e (Option.some.inj h).symm
theorem whlL_turn (S : BA.Env) : whlL test body S = (test S >>= fun c => if c = true then body S >>= fun f => match f with
      | .nx S' => whlL test body S'
      | .ct S' => whlL test body S'
      | .bk S' => pure (.nx S')
      | .rt v => pure (.rt v)
    else pure (.nx S)) := by
  funext D
  refine opt_ext (fun r h => ?_) fun r h => ?_
  · obtain ⟨n, hn⟩ := whlL_to h
    cases n with
    | zero => cases hn
    | succ n =>
      rw [whlN_succ] at hn
      refine M.bnd_mono hn fun c d hc => ?_
      cases c with
      | false => exact hc
      | true =>
        rw [if_pos rfl] at hc ⊢
        refine M.bnd_mono hc fun f d2 hf => ?_
        cases f with
        | nx S' => exact whlL_of hf
        | ct S' => exact whlL_of hf
        | bk S' => exact hf
        | rt v => exact hf
  · have key : ∃ n, whlN test body (n + 1) S D = some r := by
      refine M.bnd_mono2 h (fun c fs d e1 e2 => ⟨0, ?_⟩) fun c d e hc => ?_
      · rw [whlN_succ, M.bind_eq, e1, e2]
      · cases c with
        | false => exact ⟨0, by rw [whlN_succ, M.bind_eq, e]; exact hc⟩
        | true =>
          rw [if_pos rfl] at hc
          refine M.bnd_mono2 hc (fun k fs d2 e1 e2 => ⟨0, ?_⟩) fun f d2 e2 hf => ?_
          · rw [whlN_succ, M.bind_eq, e]
            show (if true = true then _ else _ : M Fl) d = _
            rw [if_pos rfl, M.bind_eq, e1, e2]
          · have fin : ∀ n, ((match f with
                | .nx S' => whlN test body n S'
                | .ct S' => whlN test body n S'
                | .bk S' => pure (.nx S')
                | .rt v => pure (.rt v) : M Fl) d2 = some r) → whlN test body (n + 1) S D = some r := fun n hn => by
              rw [whlN_succ, M.bind_eq, e]
              show (if true = true then _ else _ : M Fl) d = _
              rw [if_pos rfl, M.bind_eq, e2]
              exact hn
            cases f with
            | nx S' => obtain ⟨n, hn⟩ := whlL_to hf; exact ⟨n, fin n hn⟩
            | ct S' => obtain ⟨n, hn⟩ := whlL_to hf; exact ⟨n, fin n hn⟩
            | bk S' => exact ⟨0, fin 0 hf⟩
            | rt v => exact ⟨0, fin 0 hf⟩
    obtain ⟨n, hn⟩ := key
    exact whlL_of hn
end
end BA
/-! PlRat -/
set_option linter.all false
/-! PlRat: ratios of whole numbers are Lean's rational numbers. -/
namespace BA
/-- the divisor that a quotient is shortened by -/
def gdiv (a b : Int) : Int := if 0 < b then (Int.gcd a b : Int) else 0 - (Int.gcd a b : Int)
theorem gdiv_eq (a b : Int) (h : b ≠ 0) : gdiv a b = b.sign * (Int.gcd a b : Int) := by
  unfold gdiv
  by_cases c : 0 < b
  · rw [if_pos c, Int.sign_eq_one_of_pos c, Int.one_mul]
  · rw [if_neg c, Int.sign_eq_neg_one_of_neg (by omega)]
    omega
theorem gdiv_ne (a b : Int) (h : b ≠ 0) : gdiv a b ≠ 0 := by
  have := Int.gcd_pos_of_ne_zero_right a h
  unfold gdiv
  split <;> omega
theorem gdiv_dvd_left (a b : Int) : gdiv a b ∣ a := by
  unfold gdiv
  split
  · exact Int.gcd_dvd_left ..
  · rw [Int.zero_sub]
    exact Int.neg_dvd.mpr (Int.gcd_dvd_left ..)
theorem gdiv_dvd_right (a b : Int) : gdiv a b ∣ b := by
  unfold gdiv
  split
  · exact Int.gcd_dvd_right ..
  · rw [Int.zero_sub]
    exact Int.neg_dvd.mpr (Int.gcd_dvd_right ..)
theorem gdiv_num (a b : Int) (h : b ≠ 0) : a.fdiv (gdiv a b) = (Rat.divInt a b).num := by
  rw [Rat.num_divInt, Int.fdiv_eq_ediv_of_dvd (gdiv_dvd_left a b), gdiv_eq a b h, Int.gcd_comm]
  have hg : ((Int.gcd b a : Nat) : Int) ≠ 0 := by
    have := Int.gcd_pos_of_ne_zero_left a h
    omega
  obtain ⟨k, hk⟩ : ((Int.gcd b a : Nat) : Int) ∣ a := Int.gcd_dvd_right ..
  generalize ((Int.gcd b a : Nat) : Int) = g at *
  subst hk
  rcases Int.lt_or_gt_of_ne h with c | c
  · rw [Int.sign_eq_neg_one_of_neg c]
    have e1 : (-1 : Int) * g = -g := by omega
    have e2 : (-1 : Int) * (g * k) = g * (-k) := by rw [Int.neg_one_mul, Int.mul_neg]
    rw [e1, e2, Int.ediv_neg, Int.mul_ediv_cancel_left _ hg, Int.mul_ediv_cancel_left _ hg]
  · rw [Int.sign_eq_one_of_pos c, Int.one_mul, Int.one_mul]
theorem gdiv_den (a b : Int) (h : b ≠ 0) : b.fdiv (gdiv a b) = ((Rat.divInt a b).den : Int) := by
  rw [Rat.den_divInt, if_neg h, Int.fdiv_eq_ediv_of_dvd (gdiv_dvd_right a b), gdiv_eq a b h, Int.gcd_comm]
  have hg : ((Int.gcd b a : Nat) : Int) ≠ 0 := by
    have := Int.gcd_pos_of_ne_zero_left a h
    omega
  rw [Int.natCast_ediv]
  rcases Int.lt_or_gt_of_ne h with c | c
  · rw [Int.sign_eq_neg_one_of_neg c, Int.neg_one_mul, Int.ediv_neg]
    have e : ((b.natAbs : Nat) : Int) = -b := by omega
    rw [e, Int.neg_ediv_of_dvd (Int.gcd_dvd_left ..)]
  · rw [Int.sign_eq_one_of_pos c, Int.one_mul]
    have e : ((b.natAbs : Nat) : Int) = b := by omega
    rw [e]
theorem rat_add (p q : Rat) : Rat.divInt (p.num * q.den + q.num * p.den) (p.den * q.den) = p + q := by
  rw [Rat.add_def', ← Rat.divInt_ofNat, Int.natCast_mul]
theorem rat_sub (p q : Rat) : Rat.divInt (p.num * q.den - q.num * p.den) (p.den * q.den) = p - q := by
  rw [Rat.sub_def', ← Rat.divInt_ofNat, Int.natCast_mul]
theorem rat_mul (p q : Rat) : Rat.divInt (p.num * q.num) (p.den * q.den) = p * q := by
  rw [Rat.mul_def', ← Rat.divInt_ofNat, Int.natCast_mul]
theorem rat_div (p q : Rat) : Rat.divInt (p.num * q.den) (p.den * q.num) = p / q := by
  rw [Rat.divInt_eq_div, Rat.intCast_mul, Rat.intCast_mul]
  conv => rhs; rw [← Rat.num_divInt_den p, ← Rat.num_divInt_den q, Rat.divInt_eq_div, Rat.divInt_eq_div]
  have h1 := p.den_nz
  have h2 := q.den_nz
  have h3 : ((p.den : Int) : Rat) ≠ 0 := by
    intro z
    have := Rat.intCast_inj.mp (z.trans Rat.intCast_zero.symm)
    omega
  have h4 : ((q.den : Int) : Rat) ≠ 0 := by
    intro z
    have := Rat.intCast_inj.mp (z.trans Rat.intCast_zero.symm)
    omega
  grind
theorem den_pos (q : Rat) : (0 : Int) < q.den := by have := q.den_pos; omega
/-- numbers of at most k figures of two -/
def Sz (k : Nat) (q : Rat) : Prop := q.num.natAbs < 2 ^ k ∧ q.den < 2 ^ k
theorem Sz.mono {a b : Nat} {q : Rat} (h : Sz a q) (hab : a ≤ b) : Sz b q :=
  ⟨Nat.lt_of_lt_of_le h.1 (Nat.pow_le_pow_right (by decide) hab), Nat.lt_of_lt_of_le h.2 (Nat.pow_le_pow_right (by decide) hab)⟩
theorem sz_divInt {k : Nat} {a b : Int} (hb : b ≠ 0) (h1 : a.natAbs < 2 ^ k) (h2 : b.natAbs < 2 ^ k) : Sz k (Rat.divInt a b) := by
  constructor
  · rw [← gdiv_num a b hb, Int.fdiv_eq_ediv_of_dvd (gdiv_dvd_left a b)]
    refine Nat.lt_of_le_of_lt ?_ h1
    exact Int.natAbs_ediv_le_natAbs a (gdiv a b)
  · have e := gdiv_den a b hb
    rw [Int.fdiv_eq_ediv_of_dvd (gdiv_dvd_right a b)] at e
    have := Int.natAbs_ediv_le_natAbs b (gdiv a b)
    rw [e] at this
    omega
theorem two_mul_lt {a b i j : Nat} (h1 : a < 2 ^ i) (h2 : b < 2 ^ j) : a * b < 2 ^ (i + j) := by
  rw [Nat.pow_add]
  exact Nat.mul_lt_mul'' h1 h2
theorem Sz.add {a b : Nat} {p q : Rat} (hp : Sz a p) (hq : Sz b q) : Sz (a + b + 1) (p + q) := by
  rw [← rat_add]
  refine sz_divInt (Int.mul_ne_zero (by have := den_pos p; omega) (by have := den_pos q; omega)) ?_ ?_
  · have h1 := two_mul_lt hp.1 hq.2
    have h2 := two_mul_lt hq.1 hp.2
    have h3 := Int.natAbs_add_le (p.num * q.den) (q.num * p.den)
    rw [Int.natAbs_mul, Int.natAbs_mul, Int.natAbs_natCast, Int.natAbs_natCast] at h3
    rw [Nat.pow_succ]
    have e : b + a = a + b := by omega
    rw [e] at h2
    omega
  · have h1 := two_mul_lt hp.2 hq.2
    rw [Int.natAbs_mul, Int.natAbs_natCast, Int.natAbs_natCast, Nat.pow_succ]
    omega
theorem Sz.neg {a : Nat} {p : Rat} (hp : Sz a p) : Sz a (-p) := by
  refine ⟨?_, ?_⟩
  · rw [Rat.neg_num, Int.natAbs_neg]
    exact hp.1
  · rw [Rat.neg_den]
    exact hp.2
theorem Sz.sub {a b : Nat} {p q : Rat} (hp : Sz a p) (hq : Sz b q) : Sz (a + b + 1) (p - q) := by
  rw [Rat.sub_eq_add_neg]
  exact hp.add hq.neg
theorem Sz.mul {a b : Nat} {p q : Rat} (hp : Sz a p) (hq : Sz b q) : Sz (a + b) (p * q) := by
  rw [← rat_mul]
  refine sz_divInt (Int.mul_ne_zero (by have := den_pos p; omega) (by have := den_pos q; omega)) ?_ ?_
  · rw [Int.natAbs_mul]
    exact two_mul_lt hp.1 hq.1
  · rw [Int.natAbs_mul, Int.natAbs_natCast, Int.natAbs_natCast]
    exact two_mul_lt hp.2 hq.2
theorem Sz.int {k : Nat} {i : Int} (h : i.natAbs < 2 ^ (k + 1)) : Sz (k + 1) (i : Rat) := ⟨h, by rw [Rat.den_intCast]; exact Nat.one_lt_two_pow (by omega)⟩
/-- a pair in least terms is a rational number -/
theorem rat_of_pair {a b : Int} (hb : 0 < b) (hg : Int.gcd a b = 1) : (Rat.divInt a b).num = a ∧ ((Rat.divInt a b).den : Int) = b := by
  have h1 := gdiv_num a b (by omega)
  have h2 := gdiv_den a b (by omega)
  have e : gdiv a b = 1 := by unfold gdiv; rw [if_pos hb, hg]; rfl
  rw [e, Int.fdiv_one] at h1 h2
  exact ⟨h1.symm, h2.symm⟩
theorem gcd_num_den (q : Rat) : Int.gcd q.num q.den = 1 := by
  have := q.reduced
  unfold Nat.Coprime at this
  simpa [Int.gcd] using this
end BA
/-! Pl1 -/
set_option Elab.async false
set_option linter.all false
set_option maxRecDepth 100000
set_option maxHeartbeats 1000000
/-! Pl1: tools of the plain law: runs, loops, comparisons. -/
namespace BA
open PySem L2
/-! ### a def's run -/
/-- a def's body, run -/
noncomputable def run (T : Tab) (call : Nat → List PV → M PV) (d : FD) (vs : List PV) : M PV := if vs.length = d.np then evB T call d.body (vs.map .val ++ List.replicate (d.N.length - vs.length) .non) >>= finV else M.stuck
theorem callN_run {T : Tab} {F : List FE} {n f : Nat} {d : FD} (h : F[f]? = some (.code d)) : callN T F (n + 1) f = run T (callN T F n) d := by
  funext vs
  show callN T F (n + 1) f vs = _
  conv => lhs; unfold callN
  rw [h]
  rfl
@[simp] theorem finV_rt (v : PV) : finV (.rt v) = pure v := rfl
@[simp] theorem finV_nx (S : Env) : finV (.nx S) = pure .non := rfl
@[simp] theorem truV_bl (b : Bool) : truV (.bl b) = some b := rfl
@[simp] theorem intV_int (i : Int) : intV (.int i) = some i := rfl
@[simp] theorem strV_str (i : Str) : strV (.str i) = some i := rfl
@[simp] theorem seqV_lst (i : List PV) : seqV (.lst i) = some i := rfl
@[simp] theorem seqV_tup (i : List PV) : seqV (.tup i) = some i := rfl
@[simp] theorem bindT_nm (i : Nat) (v : PV) (S : Env) : bindT (.nm i) v S = some (S.set i (.val v)) := rfl
/-! ### loops -/
section
variable {test : Env → M Bool} {body : Env → M Fl} {S S' : Env} {v : PV}
theorem whl_nx (h1 : test S = pure true) (h2 : body S = pure (.nx S')) : whlL test body S = whlL test body S' := by
  rw [whlL_turn S, h1, M.pure_bind, if_pos rfl, h2, M.pure_bind]
theorem whl_ct (h1 : test S = pure true) (h2 : body S = pure (.ct S')) : whlL test body S = whlL test body S' := by
  rw [whlL_turn S, h1, M.pure_bind, if_pos rfl, h2, M.pure_bind]
theorem whl_bk (h1 : test S = pure true) (h2 : body S = pure (.bk S')) : whlL test body S = pure (.nx S') := by
  rw [whlL_turn S, h1, M.pure_bind, if_pos rfl, h2, M.pure_bind]
theorem whl_rt (h1 : test S = pure true) (h2 : body S = pure (.rt v)) : whlL test body S = pure (.rt v) := by
  rw [whlL_turn S, h1, M.pure_bind, if_pos rfl, h2, M.pure_bind]
theorem whl_end (h1 : test S = pure false) : whlL test body S = pure (.nx S) := by
  rw [whlL_turn S, h1, M.pure_bind, if_neg Bool.false_ne_true]
end
section
variable {body : PV → Env → M Fl} {x : PV} {xs : List PV} {S S' : Env} {v : PV}
@[simp] theorem forL_nil : forL body [] S = pure (.nx S) := rfl
theorem for_nx (h : body x S = pure (.nx S')) : forL body (x :: xs) S = forL body xs S' := by
  show (body x S >>= _) = _
  rw [h, M.pure_bind]
theorem for_ct (h : body x S = pure (.ct S')) : forL body (x :: xs) S = forL body xs S' := by
  show (body x S >>= _) = _
  rw [h, M.pure_bind]
theorem for_bk (h : body x S = pure (.bk S')) : forL body (x :: xs) S = pure (.nx S') := by
  show (body x S >>= _) = _
  rw [h, M.pure_bind]
theorem for_rt (h : body x S = pure (.rt v)) : forL body (x :: xs) S = pure (.rt v) := by
  show (body x S >>= _) = _
  rw [h, M.pure_bind]
end
/-- a loop that goes on, over things told by a list -/
theorem for_fold {α β : Type} {body : PV → Env → M Fl} (e : α → PV) (E : β → Env) (f : β → α → β) : ∀ (xs : List α) (b : β), (∀ x ∈ xs, ∀ b, body (e x) (E b) = pure (.nx (E (f b x)))) → forL body (xs.map e) (E b) = pure (.nx (E (xs.foldl f b)))
  | [], b, _ => rfl
  | x :: xs, b, h => by
    rw [List.map_cons, for_nx (h x (List.mem_cons_self ..) b), List.foldl_cons]
    exact for_fold e E f xs _ fun y hy => h y (List.mem_cons_of_mem _ hy)
theorem compL_ok {f : PV → M (Option PV)} {g : PV → Option PV} : ∀ {xs : List PV}, (∀ x ∈ xs, f x = pure (g x)) → compL f xs = pure (xs.filterMap g)
  | [], _ => rfl
  | x :: xs, h => by
    show (f x >>= _) = _
    rw [h x (List.mem_cons_self ..), M.pure_bind, compL_ok fun y hy => h y (List.mem_cons_of_mem _ hy), M.pure_bind]
    cases e : g x <;> simp [List.filterMap_cons, e]
theorem compL_map {α : Type} {f : PV → M (Option PV)} {e : α → PV} {g : α → Option PV} {xs : List α} (h : ∀ x ∈ xs, f (e x) = pure (g x)) : compL f (xs.map e) = pure (xs.filterMap g) := by
  induction xs with
  | nil => rfl
  | cons x xs ih =>
    show (f (e x) >>= _) = _
    rw [h x (List.mem_cons_self ..), M.pure_bind]
    have := ih fun y hy => h y (List.mem_cons_of_mem _ hy)
    show (compL f (xs.map e) >>= _) = _
    rw [this, M.pure_bind]
    cases e : g x <;> simp [List.filterMap_cons, e]
theorem compLL_map {α : Type} {f : PV → M (List PV)} {e : α → PV} {g : α → List PV} {xs : List α} (h : ∀ x ∈ xs, f (e x) = pure (g x)) : compLL f (xs.map e) = pure (xs.flatMap g) := by
  induction xs with
  | nil => rfl
  | cons x xs ih =>
    show (f (e x) >>= _) = _
    rw [h x (List.mem_cons_self ..), M.pure_bind]
    have := ih fun y hy => h y (List.mem_cons_of_mem _ hy)
    show (compLL f (xs.map e) >>= _) = _
    rw [this, M.pure_bind, List.flatMap_cons]
/-! ### loops of the code, kept shut -/
section
variable {T : Tab} {call : Nat → List PV → M PV}
theorem ws_nx {c : IE} {b : IB} {S S' : Env} (h1 : evE T call c S = pure (.bl true)) (h2 : evB T call b S = pure (.nx S')) : evS T call (.whl c b) S = evS T call (.whl c b) S' := by
  rw [qS_whl, qS_whl]
  exact whl_nx (by rw [h1]; rfl) h2
theorem ws_ct {c : IE} {b : IB} {S S' : Env} (h1 : evE T call c S = pure (.bl true)) (h2 : evB T call b S = pure (.ct S')) : evS T call (.whl c b) S = evS T call (.whl c b) S' := by
  rw [qS_whl, qS_whl]
  exact whl_ct (by rw [h1]; rfl) h2
theorem ws_bk {c : IE} {b : IB} {S S' : Env} (h1 : evE T call c S = pure (.bl true)) (h2 : evB T call b S = pure (.bk S')) : evS T call (.whl c b) S = pure (.nx S') := by
  rw [qS_whl]
  exact whl_bk (by rw [h1]; rfl) h2
theorem ws_rt {c : IE} {b : IB} {S : Env} {v : PV} (h1 : evE T call c S = pure (.bl true)) (h2 : evB T call b S = pure (.rt v)) : evS T call (.whl c b) S = pure (.rt v) := by
  rw [qS_whl]
  exact whl_rt (by rw [h1]; rfl) h2
theorem ws_end {c : IE} {b : IB} {S : Env} (h1 : evE T call c S = pure (.bl false)) : evS T call (.whl c b) S = pure (.nx S) := by
  rw [qS_whl]
  exact whl_end (by rw [h1]; rfl)
/-- a walk's turns -/
noncomputable def forB (T : Tab) (call : Nat → List PV → M PV) (t : IT) (b : IB) (xs : List PV) (S : Env) : M Fl := forL (fun x S' => M.lift (bindT t x S') >>= fun S'' => evB T call b S'') xs S
@[simp] theorem qS_forB {t it b S} : evS T call (.for_ t it b) S = (evI T call it S >>= fun xs => forB T call t b xs S) := rfl
variable {t : IT} {b : IB} {x : PV} {xs : List PV} {S S1 S' : Env} {v : PV}
@[simp] theorem forB_nil : forB T call t b [] S = pure (.nx S) := rfl
theorem forB_cons : forB T call t b (x :: xs) S = (M.lift (bindT t x S) >>= fun S1 => evB T call b S1 >>= fun f => match f with
    | .nx S' => forB T call t b xs S'
    | .ct S' => forB T call t b xs S'
    | .bk S' => pure (.nx S')
    | .rt v => pure (.rt v)) := by
  unfold forB
  show (_ >>= fun S'' => evB T call b S'') >>= _ = _
  rw [M.bind_assoc]
  try rfl
theorem fs_nx (h0 : bindT t x S = some S1) (h : evB T call b S1 = pure (.nx S')) : forB T call t b (x :: xs) S = forB T call t b xs S' := by
  rw [forB_cons, h0, M.lift_some, M.pure_bind, h, M.pure_bind]
theorem fs_ct (h0 : bindT t x S = some S1) (h : evB T call b S1 = pure (.ct S')) : forB T call t b (x :: xs) S = forB T call t b xs S' := by
  rw [forB_cons, h0, M.lift_some, M.pure_bind, h, M.pure_bind]
theorem fs_bk (h0 : bindT t x S = some S1) (h : evB T call b S1 = pure (.bk S')) : forB T call t b (x :: xs) S = pure (.nx S') := by
  rw [forB_cons, h0, M.lift_some, M.pure_bind, h, M.pure_bind]
theorem fs_rt (h0 : bindT t x S = some S1) (h : evB T call b S1 = pure (.rt v)) : forB T call t b (x :: xs) S = pure (.rt v) := by
  rw [forB_cons, h0, M.lift_some, M.pure_bind, h, M.pure_bind]
/-- a walk with what holds behind each turn -/
theorem fs_inv {I : Nat → Env → Prop} : ∀ {xs : List PV} {S : Env} (k : Nat), I k S → (∀ i x S, xs[i]? = some x → I (k + i) S → ∃ S1 S', bindT t x S = some S1 ∧ (evB T call b S1 = pure (.nx S') ∨ evB T call b S1 = pure (.ct S')) ∧ I (k + i + 1) S') →
    ∃ S', forB T call t b xs S = pure (.nx S') ∧ I (k + xs.length) S'
  | [], S, k, h0, _ => ⟨S, rfl, h0⟩
  | x :: xs, S, k, h0, h => by
    obtain ⟨S1, S', e0, e1, h1⟩ := h 0 x S rfl h0
    obtain ⟨S2, e2, h2⟩ := fs_inv (xs := xs) (I := I) (k + 1) h1 fun i y S3 hy h3 => by
      have := h (i + 1) y S3 hy (by rw [show k + (i + 1) = k + 1 + i by omega]; exact h3)
      rw [show k + (i + 1) + 1 = k + 1 + i + 1 by omega] at this
      exact this
    refine ⟨S2, ?_, by rw [List.length_cons, show k + (xs.length + 1) = k + 1 + xs.length by omega]; exact h2⟩
    rcases e1 with e1 | e1
    · rw [fs_nx e0 e1]; exact e2
    · rw [fs_ct e0 e1]; exact e2
/-- a walk that may hand back -/
theorem fs_ret {I : Nat → Env → Prop} {R : PV → Prop} : ∀ {xs : List PV} {S : Env} (k : Nat), I k S → (∀ i x S, xs[i]? = some x → I (k + i) S → ∃ S1, bindT t x S = some S1 ∧ ((∃ S', evB T call b S1 = pure (.nx S') ∧ I (k + i + 1) S') ∨ ∃ v, evB T call b S1 = pure (.rt v) ∧ R v)) →
    (∃ S', forB T call t b xs S = pure (.nx S') ∧ I (k + xs.length) S') ∨ ∃ v, forB T call t b xs S = pure (.rt v) ∧ R v
  | [], S, k, h0, _ => .inl ⟨S, rfl, h0⟩
  | x :: xs, S, k, h0, h => by
    obtain ⟨S1, e0, e1⟩ := h 0 x S rfl h0
    rcases e1 with ⟨S', e1, h1⟩ | ⟨v, e1, h1⟩
    · rw [fs_nx e0 e1]
      have := fs_ret (xs := xs) (I := I) (R := R) (k + 1) h1 fun i y S3 hy h3 => by
        have := h (i + 1) y S3 hy (by rw [show k + (i + 1) = k + 1 + i by omega]; exact h3)
        rw [show k + (i + 1) + 1 = k + 1 + i + 1 by omega] at this
        exact this
      rw [List.length_cons, show k + (xs.length + 1) = k + 1 + xs.length by omega]
      exact this
    · exact .inr ⟨v, fs_rt e0 e1, h1⟩
/-- a comprehension's turns -/
noncomputable def cmpB (T : Tab) (call : Nat → List PV → M PV) (t : IT) (cond elt : IE) (xs : List PV) (S : Env) : M PV :=
    compL (fun x => M.noex (M.lift (bindT t x (wipeE S t.slots)) >>= fun S' =>
      (if cond.isNil = true then pure true else evE T call cond S' >>= fun v => M.lift (truV v)) >>= fun c =>
      if c = true then evE T call elt S' >>= fun v => pure (some v) else pure none)) xs >>= fun ys => pure (.lst ys)
@[simp] theorem qE_cmpB {t it cond elt S} : evE T call (.cmp1 t it cond elt) S = (evI T call it S >>= fun xs => cmpB T call t cond elt xs S) := rfl
theorem cm_map {α : Type} {t : IT} {elt : IE} {e : α → PV} {E : α → Env} {g : α → PV} {xs : List α} {S : Env} (hb : ∀ x ∈ xs, bindT t (e x) (wipeE S t.slots) = some (E x)) (h : ∀ x ∈ xs, evE T call elt (E x) = pure (g x)) : cmpB T call t .nil elt (xs.map e) S = pure (.lst (xs.map g)) := by
  unfold cmpB
  rw [compL_map (g := fun x => some (g x)) fun x hx => ?_, M.pure_bind, List.filterMap_eq_map']
  · rw [hb x hx, M.lift_some, M.pure_bind]
    show M.noex ((if true = true then pure true else _ : M Bool) >>= _) = _
    rw [if_pos rfl, M.pure_bind, if_pos rfl, h x hx, M.pure_bind, M.noex_pure]
theorem cm_filter {α : Type} {t : IT} {cond elt : IE} {e : α → PV} {E : α → Env} {p : α → Bool} {g : α → PV} {xs : List α} {S : Env} (hb : ∀ x ∈ xs, bindT t (e x) (wipeE S t.slots) = some (E x)) (hn : cond.isNil = false) (hc : ∀ x ∈ xs, evE T call cond (E x) = pure (.bl (p x))) (h : ∀ x ∈ xs, p x = true → evE T call elt (E x) = pure (g x)) : cmpB T call t cond elt (xs.map e) S = pure (.lst ((xs.filter p).map g)) := by
  unfold cmpB
  rw [compL_map (g := fun x => if p x = true then some (g x) else none) fun x hx => ?_, M.pure_bind]
  · congr 2
    clear hb hc h
    induction xs with
    | nil => rfl
    | cons x xs ih => cases q : p x <;> simp [List.filterMap_cons, List.filter_cons, q, ih]
  · rw [hb x hx, M.lift_some, M.pure_bind, hn]
    show M.noex ((if false = true then pure true else _ : M Bool) >>= _) = _
    rw [if_neg Bool.false_ne_true, hc x hx, M.pure_bind]
    show M.noex (M.lift (some (p x)) >>= _) = _
    rw [M.lift_some, M.pure_bind]
    cases q : p x with
    | true => rw [if_pos rfl, h x hx q, M.pure_bind, if_pos rfl, M.noex_pure]
    | false => rw [if_neg Bool.false_ne_true, if_neg Bool.false_ne_true, M.noex_pure]
end
/-! ### data -/
def Pd (v : PV) : Prop := v.toD.isSome = true
theorem toDs_ok : ∀ {xs : List PV}, (∀ x ∈ xs, Pd x) → ∃ ds, PV.toDs xs = some ds ∧ ds.length = xs.length
  | [], _ => ⟨[], rfl, rfl⟩
  | x :: xs, h => by
    obtain ⟨d, hd⟩ := Option.isSome_iff_exists.mp (h x (List.mem_cons_self ..))
    obtain ⟨ds, h1, h2⟩ := toDs_ok fun y hy => h y (List.mem_cons_of_mem _ hy)
    exact ⟨d :: ds, by unfold PV.toDs; rw [hd, h1], by rw [List.length_cons, List.length_cons, h2]⟩
theorem toDs_mem : ∀ {xs : List PV} {ds : List PyData}, PV.toDs xs = some ds → ∀ x ∈ xs, Pd x
  | [], _, _, x, hx => by cases hx
  | y :: xs, ds, h, x, hx => by
    unfold PV.toDs at h
    cases e1 : y.toD with
    | none => rw [e1] at h; cases h
    | some d => cases e2 : PV.toDs xs with
      | none => rw [e1, e2] at h; cases h
      | some es => rcases List.mem_cons.mp hx with rfl | hx
                   · show PV.toD _ |>.isSome
                     rw [e1]; rfl
                   · exact toDs_mem e2 x hx
theorem pd_tup {xs : List PV} : Pd (.tup xs) ↔ ∀ x ∈ xs, Pd x := by
  constructor
  · intro h
    cases e : PV.toDs xs with
    | none =>
      have : (PV.tup xs).toD = none := by show (PV.toDs xs).map _ = none; rw [e]; rfl
      unfold Pd at h; rw [this] at h; cases h
    | some ds => exact toDs_mem e
  · intro h
    obtain ⟨ds, h1, _⟩ := toDs_ok h
    show ((PV.toDs xs).map _).isSome = true
    rw [h1]; rfl
theorem pd_lst {xs : List PV} : Pd (.lst xs) ↔ ∀ x ∈ xs, Pd x := by
  constructor
  · intro h
    cases e : PV.toDs xs with
    | none =>
      have : (PV.lst xs).toD = none := by show (PV.toDs xs).map _ = none; rw [e]; rfl
      unfold Pd at h; rw [this] at h; cases h
    | some ds => exact toDs_mem e
  · intro h
    obtain ⟨ds, h1, _⟩ := toDs_ok h
    show ((PV.toDs xs).map _).isSome = true
    rw [h1]; rfl
@[simp] theorem pd_int (i : Int) : Pd (.int i) := rfl
@[simp] theorem pd_str (i : Str) : Pd (.str i) := rfl
@[simp] theorem pd_bl (i : Bool) : Pd (.bl i) := rfl
@[simp] theorem pd_non : Pd .non := rfl
/-- how deep -/
def PV.dp (v : PV) : Nat := (v.toD.map PyData.depth).getD 0
theorem eqV_data {a b : PV} {d e : PyData} (ha : a.toD = some d) (hb : b.toD = some e) (h : min d.depth e.depth ≤ 64) : eqV a b = some (PyData.eqv d e) := by
  unfold eqV
  split
  · cases ha; cases hb; simp [PyData.eqv]; rfl
  · cases ha; cases hb; simp [PyData.eqv]; rfl
  · cases ha; cases hb; simp [PyData.eqv]; rfl
  · cases ha; cases hb; simp [PyData.eqv]
  · rw [ha, hb]
    simp only
    rw [if_pos h]
mutual
theorem eqv_refl_toD : ∀ {v : PV} {d : PyData}, v.toD = some d → PyData.eqv d d = true
  | .non, d, h => by cases h; rfl
  | .bl b, d, h => by cases h; simp [PyData.eqv]
  | .int b, d, h => by cases h; simp [PyData.eqv]
  | .str b, d, h => by cases h; simp [PyData.eqv]
  | .tup xs, d, h => by
    have h' : (PV.toDs xs).map PyData.tuple = some d := h
    obtain ⟨ds, e1, e2⟩ := Option.map_eq_some_iff.mp h'
    subst e2
    rw [PyData.eqv]
    exact eqvAll_refl_toD e1
  | .lst xs, d, h => by
    have h' : (PV.toDs xs).map PyData.list = some d := h
    obtain ⟨ds, e1, e2⟩ := Option.map_eq_some_iff.mp h'
    subst e2
    rw [PyData.eqv]
    exact eqvAll_refl_toD e1
  | .dct _, d, h => by cases h
  | .obj _ _, d, h => by cases h
  | .exn _ _, d, h => by cases h
  | .drw, d, h => by cases h
theorem eqvAll_refl_toD : ∀ {vs : List PV} {ds : List PyData}, PV.toDs vs = some ds → PyData.eqvAll ds ds = true
  | [], ds, h => by cases h; rfl
  | v :: vs, ds, h => by
    unfold PV.toDs at h
    cases e1 : v.toD with
    | none => rw [e1] at h; cases h
    | some d => cases e2 : PV.toDs vs with
      | none => rw [e1, e2] at h; cases h
      | some es =>
        rw [e1, e2] at h
        cases h
        rw [PyData.eqvAll, eqv_refl_toD e1, eqvAll_refl_toD e2]; rfl
end
theorem eqV_refl {v : PV} (h : Pd v) (hd : v.dp ≤ 64) : eqV v v = some true := by
  obtain ⟨d, e⟩ := Option.isSome_iff_exists.mp h
  have hd' : d.depth ≤ 64 := by unfold PV.dp at hd; rw [e] at hd; exact hd
  rw [eqV_data e e (by omega), eqv_refl_toD e]
@[simp] theorem eqV_int (i j : Int) : eqV (.int i) (.int j) = some (decide (i = j)) := rfl
@[simp] theorem eqV_str (i j : Str) : eqV (.str i) (.str j) = some (decide (i = j)) := rfl
@[simp] theorem eqV_bl (i j : Bool) : eqV (.bl i) (.bl j) = some (decide (i = j)) := rfl
theorem eqV_lst_nil {xs : List PV} (h : ∀ x ∈ xs, Pd x) : eqV (.lst xs) (.lst []) = some xs.isEmpty := by
  obtain ⟨ds, h1, h2⟩ := toDs_ok h
  have e1 : (PV.lst xs).toD = some (.list ds) := by show (PV.toDs xs).map _ = _; rw [h1]; rfl
  have e2 : (PV.lst []).toD = some (.list []) := rfl
  rw [eqV_data e1 e2 (by have : PyData.depth (.list []) ≤ 64 := by decide
                         omega)]
  rw [PyData.eqv]
  cases ds with
  | nil => cases xs with
    | nil => rfl
    | cons x xs => cases h2
  | cons d ds => cases xs with
    | nil => cases h2
    | cons x xs => rfl
theorem eqV_tup_nil {xs : List PV} (h : ∀ x ∈ xs, Pd x) : eqV (.tup xs) (.tup []) = some xs.isEmpty := by
  obtain ⟨ds, h1, h2⟩ := toDs_ok h
  have e1 : (PV.tup xs).toD = some (.tuple ds) := by show (PV.toDs xs).map _ = _; rw [h1]; rfl
  have e2 : (PV.tup []).toD = some (.tuple []) := rfl
  rw [eqV_data e1 e2 (by have : PyData.depth (.tuple []) ≤ 64 := by decide
                         omega)]
  rw [PyData.eqv]
  cases ds with
  | nil => cases xs with
    | nil => rfl
    | cons x xs => cases h2
  | cons d ds => cases xs with
    | nil => cases h2
    | cons x xs => rfl
/-! ### ratios -/
def pQ (q : Rat) : PV := .tup [.int q.num, .int q.den]
@[simp] theorem pd_pQ (q : Rat) : Pd (pQ q) := rfl
theorem eqV_pQ (p q : Rat) : eqV (pQ p) (pQ q) = some (decide (p = q)) := by
  have e1 : (pQ p).toD = some (.tuple [.int p.num, .int p.den]) := rfl
  have e2 : (pQ q).toD = some (.tuple [.int q.num, .int q.den]) := rfl
  rw [eqV_data e1 e2 (by simp [PyData.depth, PyData.depthAll])]
  congr 1
  simp only [PyData.eqv, PyData.eqvAll, Bool.and_true]
  rw [Bool.eq_iff_iff, Bool.and_eq_true, beq_iff_eq, beq_iff_eq, decide_eq_true_eq]
  constructor
  · rintro ⟨a, b⟩
    exact Rat.ext a (by omega)
  · rintro rfl
    exact ⟨rfl, rfl⟩
theorem inV_non {ys : List PV} (h : ∀ y ∈ ys, Pd y) : inV .non (.tup ys) = some (ys.any isNonV) := by
  obtain ⟨ds, h1, h2⟩ := toDs_ok h
  show (match PV.non.toD, PV.toDs ys with
    | some d, some es => if min (PyData.depthAll es) d.depth ≤ 64 then some (es.any fun e => PyData.eqv e d) else none
    | _, _ => none) = _
  rw [h1]
  show (if min (PyData.depthAll ds) (PyData.depth .none) ≤ 64 then some (ds.any fun e => PyData.eqv e .none) else none) = _
  rw [if_pos (by have : PyData.depth .none ≤ 64 := by decide
                 omega)]
  congr 1
  clear h h2
  induction ys generalizing ds with
  | nil => cases h1; rfl
  | cons y ys ih =>
    unfold PV.toDs at h1
    cases e1 : y.toD with
    | none => rw [e1] at h1; cases h1
    | some d => cases e2 : PV.toDs ys with
      | none => rw [e1, e2] at h1; cases h1
      | some es =>
        rw [e1, e2] at h1
        cases h1
        rw [List.any_cons, List.any_cons, ih _ e2]
        congr 1
        cases y with
        | non => cases e1; rfl
        | bl _ => cases e1; rfl
        | int _ => cases e1; rfl
        | str _ => cases e1; rfl
        | tup xs =>
          have h' : (PV.toDs xs).map PyData.tuple = some d := e1
          obtain ⟨ds, k1, k2⟩ := Option.map_eq_some_iff.mp h'
          subst k2; rfl
        | lst xs =>
          have h' : (PV.toDs xs).map PyData.list = some d := e1
          obtain ⟨ds, k1, k2⟩ := Option.map_eq_some_iff.mp h'
          subst k2; rfl
        | dct _ => cases e1
        | obj _ _ => cases e1
        | exn _ _ => cases e1
        | drw => cases e1
theorem inV_non_lst {ys : List PV} (h : ∀ y ∈ ys, Pd y) : inV .non (.lst ys) = some (ys.any isNonV) := inV_non h
/-! ### operators -/
@[simp] theorem binV_add (a b : Int) : binV .add (.int a) (.int b) = some (.int (a + b)) := rfl
@[simp] theorem binV_sub (a b : Int) : binV .sub (.int a) (.int b) = some (.int (a - b)) := rfl
theorem binV_mul {a b : Int} (h : a.natAbs.log2 + b.natAbs.log2 < 1000000) : binV .mul (.int a) (.int b) = some (.int (a * b)) := if_pos h
theorem binV_fdiv {a b : Int} (h : b ≠ 0) (h2 : b.natAbs.log2 < 9000) : binV .fdiv (.int a) (.int b) = some (.int (a.fdiv b)) := if_pos ⟨h, h2⟩
theorem binV_mod {a b : Int} (h : b ≠ 0) : binV .mod (.int a) (.int b) = some (.int (a.fmod b)) := if_pos h
theorem binV_strs {a b : Str} (h : a.length + b.length ≤ sizeLine) : binV .add (.str a) (.str b) = some (.str (a ++ b)) := if_pos h
theorem binV_lsts {a b : List PV} (h : a.length + b.length ≤ sizeLine) : binV .add (.lst a) (.lst b) = some (.lst (a ++ b)) := if_pos h
theorem binV_tups {a b : List PV} (h : a.length + b.length ≤ sizeLine) : binV .add (.tup a) (.tup b) = some (.tup (a ++ b)) := if_pos h
@[simp] theorem cmpV_lt (a b : Int) : cmpV .lt (.int a) (.int b) = some (decide (a < b)) := rfl
@[simp] theorem cmpV_le (a b : Int) : cmpV .le (.int a) (.int b) = some (decide (a ≤ b)) := rfl
@[simp] theorem cmpV_gt (a b : Int) : cmpV .gt (.int a) (.int b) = some (decide (b < a)) := rfl
@[simp] theorem cmpV_ge (a b : Int) : cmpV .ge (.int a) (.int b) = some (decide (b ≤ a)) := rfl
@[simp] theorem cmpV_eq (a b : PV) : cmpV .eq a b = eqV a b := rfl
@[simp] theorem cmpV_ne (a b : PV) : cmpV .ne a b = (eqV a b).map not := rfl
@[simp] theorem cmpV_is (a : PV) : cmpV .is a .non = some (isNonV a) := rfl
@[simp] theorem cmpV_isnot (a : PV) : cmpV .isnot a .non = some (!isNonV a) := rfl
@[simp] theorem cmpV_inn (a b : PV) : cmpV .inn a b = inV a b := rfl
@[simp] theorem cmpV_nin (a b : PV) : cmpV .nin a b = (inV a b).map not := rfl
@[simp] theorem primV_len_lst (xs : List PV) : primV .len [.lst xs] = some (.int xs.length) := rfl
@[simp] theorem primV_len_tup (xs : List PV) : primV .len [.tup xs] = some (.int xs.length) := rfl
@[simp] theorem primV_len_str (z : Str) : primV .len [.str z] = some (.int z.length) := rfl
@[simp] theorem primV_tuple_lst (xs : List PV) : primV .tuple [.lst xs] = some (.tup xs) := rfl
@[simp] theorem primV_tuple_tup (xs : List PV) : primV .tuple [.tup xs] = some (.tup xs) := rfl
@[simp] theorem primV_list_lst (xs : List PV) : primV .list [.lst xs] = some (.lst xs) := rfl
@[simp] theorem primV_list_tup (xs : List PV) : primV .list [.tup xs] = some (.lst xs) := rfl
@[simp] theorem primV_abs (i : Int) : primV .abs [.int i] = some (.int (i.natAbs : Int)) := by
  show some (PV.int (if i < 0 then -i else i)) = _
  congr 2
  omega
@[simp] theorem primV_int (i : Int) : primV .int [.int i] = some (.int i) := rfl
theorem allBl_map (bs : List Bool) : allBl (bs.map .bl) = some bs := by
  induction bs with
  | nil => rfl
  | cons b bs ih => show (allBl (bs.map .bl)).map _ = _; rw [ih]; rfl
theorem allInt_map (bs : List Int) : allInt (bs.map .int) = some bs := by
  induction bs with
  | nil => rfl
  | cons b bs ih => show (allInt (bs.map .int)).map _ = _; rw [ih]; rfl
theorem allStr_map (bs : List Str) : allStr (bs.map .str) = some bs := by
  induction bs with
  | nil => rfl
  | cons b bs ih => show (allStr (bs.map .str)).map _ = _; rw [ih]; rfl
theorem primV_all {α : Type} (xs : List α) (p : α → Bool) : primV .all [.lst (xs.map fun x => .bl (p x))] = some (.bl (xs.all p)) := by
  show (allBl _).map _ = _
  have : xs.map (fun x => PV.bl (p x)) = (xs.map p).map .bl := by rw [List.map_map]; rfl
  rw [this, allBl_map, Option.map_some, List.all_map]
  rfl
theorem primV_any {α : Type} (xs : List α) (p : α → Bool) : primV .any [.lst (xs.map fun x => .bl (p x))] = some (.bl (xs.any p)) := by
  show (allBl _).map _ = _
  have : xs.map (fun x => PV.bl (p x)) = (xs.map p).map .bl := by rw [List.map_map]; rfl
  rw [this, allBl_map, Option.map_some, List.any_map]
  rfl
theorem primV_sum {α : Type} (xs : List α) (p : α → Int) : primV .sum [.lst (xs.map fun x => .int (p x))] = some (.int (xs.map p).sum) := by
  show (allInt _).map _ = _
  have : xs.map (fun x => PV.int (p x)) = (xs.map p).map .int := by rw [List.map_map]; rfl
  rw [this, allInt_map, Option.map_some]
@[simp] theorem primV_min2 (a b : Int) : primV .min2 [.int a, .int b] = some (.int (min a b)) := by
  show some (PV.int (if b < a then b else a)) = _
  congr 2
  omega
@[simp] theorem primV_max2 (a b : Int) : primV .max2 [.int a, .int b] = some (.int (max a b)) := by
  show some (PV.int (if b > a then b else a)) = _
  congr 2
  omega
@[simp] theorem slotV_t (xs : List PV) : slotV true (.lst xs) = some (.own (.lst xs)) := rfl
@[simp] theorem slotV_f (v : PV) : slotV false v = some (.val v) := rfl
theorem ixV_nat_lst (xs : List PV) (i : Nat) : ixV (.lst xs) (.int i) = xs[i]? := by
  show atI xs i = _
  unfold atI ixN
  rw [if_pos (by omega)]
  by_cases h : (i : Int) < xs.length
  · rw [if_pos h]; simp
  · rw [if_neg h, Option.bind_none, List.getElem?_eq_none (by omega)]
theorem ixV_nat_tup (xs : List PV) (i : Nat) : ixV (.tup xs) (.int i) = xs[i]? := ixV_nat_lst xs i
@[simp] theorem ixV_0 (x : PV) (xs : List PV) : ixV (.tup (x :: xs)) (.int 0) = some x := ixV_nat_tup (x :: xs) 0
@[simp] theorem ixV_1 (x y : PV) (xs : List PV) : ixV (.tup (x :: y :: xs)) (.int 1) = some y := ixV_nat_tup (x :: y :: xs) 1
@[simp] theorem ixV_2 (x y z : PV) (xs : List PV) : ixV (.tup (x :: y :: z :: xs)) (.int 2) = some z := ixV_nat_tup (x :: y :: z :: xs) 2
@[simp] theorem ixV_l0 (x : PV) (xs : List PV) : ixV (.lst (x :: xs)) (.int 0) = some x := ixV_nat_lst (x :: xs) 0
@[simp] theorem ixV_l1 (x y : PV) (xs : List PV) : ixV (.lst (x :: y :: xs)) (.int 1) = some y := ixV_nat_lst (x :: y :: xs) 1
theorem ixV_last_lst {xs : List PV} (h : xs ≠ []) : ixV (.lst xs) (.int (-1)) = some (xs.getLast h) := by
  have h1 : 0 < xs.length := List.length_pos_iff.mpr h
  show atI xs (-1) = _
  unfold atI ixN
  rw [if_neg (by omega), if_pos (by omega), Option.bind_some, List.getLast_eq_getElem]
  have : ((-1 : Int) + (xs.length : Int)).toNat = xs.length - 1 := by omega
  rw [this, List.getElem?_eq_getElem]
theorem ixV_last_tup {xs : List PV} (h : xs ≠ []) : ixV (.tup xs) (.int (-1)) = some (xs.getLast h) := ixV_last_lst h
theorem pQ_0 (q : Rat) : ixV (pQ q) (.int 0) = some (.int q.num) := rfl
theorem pQ_1 (q : Rat) : ixV (pQ q) (.int 1) = some (.int q.den) := rfl
@[simp] theorem if_and_bl {c : Prop} [Decidable c] {b : Bool} : (if c then (pure (.bl b) : M PV) else pure (.bl false)) = pure (.bl (decide c && b)) := by
  split <;> simp [*]
@[simp] theorem if_or_bl {c : Prop} [Decidable c] {b : Bool} : (if c then (pure (.bl true) : M PV) else pure (.bl b)) = pure (.bl (decide c || b)) := by
  split <;> simp [*]
theorem if_pure {α : Type} {c : Prop} [Decidable c] {a b : α} : (if c then (pure a : M α) else pure b) = pure (if c then a else b) := by split <;> rfl
/-! ### comprehensions of two, errors caught -/
section
variable {T : Tab} {call : Nat → List PV → M PV}
noncomputable def cmp2B (T : Tab) (call : Nat → List PV → M PV) (t : IT) (cond : IE) (u : IT) (iu : II) (cu elt : IE) (xs : List PV) (S : Env) : M PV :=
    compLL (fun x => M.noex (M.lift (bindT t x (wipeE S (t.slots ++ u.slots))) >>= fun S' =>
      (if cond.isNil = true then pure true else evE T call cond S' >>= fun v => M.lift (truV v)) >>= fun c =>
      if c = true then evI T call iu S' >>= fun ys => compL (fun y => M.lift (bindT u y (wipeE S' u.slots)) >>= fun S'' =>
        (if cu.isNil = true then pure true else evE T call cu S'' >>= fun v => M.lift (truV v)) >>= fun c =>
        if c = true then evE T call elt S'' >>= fun v => pure (some v) else pure none) ys
      else pure [])) xs >>= fun ys => M.lift (if ys.length ≤ sizeLine then some (.lst ys) else none)
@[simp] theorem qE_cmp2B {t it cond u iu cu elt S} : evE T call (.cmp2 t it cond u iu cu elt) S = (evI T call it S >>= fun xs => cmp2B T call t cond u iu cu elt xs S) := rfl
theorem cm2_map {α β : Type} {t u : IT} {iu : II} {elt : IE} {e : α → PV} {e2 : β → PV} {inner : α → List β} {E : α → Env} {E2 : α → β → Env} {g : α → β → PV} {xs : List α} {S : Env}
    (hb : ∀ x ∈ xs, bindT t (e x) (wipeE S (t.slots ++ u.slots)) = some (E x)) (hi : ∀ x ∈ xs, evI T call iu (E x) = pure ((inner x).map e2)) (hb2 : ∀ x ∈ xs, ∀ y ∈ inner x, bindT u (e2 y) (wipeE (E x) u.slots) = some (E2 x y))
    (h : ∀ x ∈ xs, ∀ y ∈ inner x, evE T call elt (E2 x y) = pure (g x y)) (hl : (xs.flatMap fun x => (inner x).map (g x)).length ≤ sizeLine) :
    cmp2B T call t .nil u iu .nil elt (xs.map e) S = pure (.lst (xs.flatMap fun x => (inner x).map (g x))) := by
  unfold cmp2B
  rw [compLL_map (g := fun x => (inner x).map (g x)) fun x hx => ?_, M.pure_bind, if_pos hl, M.lift_some]
  rw [hb x hx, M.lift_some, M.pure_bind]
  show M.noex ((if true = true then pure true else _ : M Bool) >>= _) = _
  rw [if_pos rfl, M.pure_bind, if_pos rfl, hi x hx, M.pure_bind, compL_map (g := fun y => some (g x y)) fun y hy => ?_, M.noex_pure, List.filterMap_eq_map']
  rw [hb2 x hx y hy, M.lift_some, M.pure_bind]
  show ((if true = true then pure true else _ : M Bool) >>= _) = _
  rw [if_pos rfl, M.pure_bind, if_pos rfl, h x hx y hy, M.pure_bind]
theorem cau_ok {e : IE} {S : Env} {v : PV} (h : evE T call e S = pure v) : evE T call (.cau e) S = pure .non := by
  rw [qE_cau]
  funext d
  rw [h]
  rfl
theorem cau_raise {e : IE} {S : Env} {c : Nat} {fs : List PV} (h : evE T call e S = M.raise c fs) (hc : T.exc[c]? = some true) : evE T call (.cau e) S = pure (.exn c fs) := by
  rw [qE_cau]
  funext d
  rw [h]
  show (if T.exc[c]? = some true then _ else _) = _
  rw [if_pos hc]
  rfl
/-- an error of one's own -/
structure ExcC (T : Tab) (c : Nat) (fs : List Nat) : Prop where
  exc : T.exc[c]? = some true
  len : c < T.flds.length
  self : (c, c) ∈ T.sub
  flds : T.flds.getD c [] = fs
theorem ExcC.is {c : Nat} {fs : List Nat} (h : ExcC T c fs) (vs : List PV) : isAny T (.exn c vs) [.own c] = some true := by
  have : isOne T (.exn c vs) (.own c) = some true := by
    show (if _ then _ else _) = _
    rw [if_pos ⟨h.exc, h.len⟩, decide_eq_true h.self]
  unfold isAny
  rw [this]
theorem ExcC.not_non {c : Nat} {fs : List Nat} (h : ExcC T c fs) : isAny T .non [.own c] = some false := by
  have : isOne T .non (.own c) = some false := if_pos h.len
  unfold isAny
  rw [this]
  rfl
end
end BA
/-! Pl2 -/
set_option Elab.async false
set_option linter.all false
set_option maxRecDepth 100000
set_option maxHeartbeats 1000000
/-! Pl2: numbers and ratios. -/
namespace BA.Li
open PySem BA
section
variable {T : Tab} {call : Nat → List PV → M PV}
/-! ### numbers -/
def isI : PV → Bool
  | .int _ => true
  | _ => false
def Sp_is_number (f : List PV → M PV) : Prop := ∀ v, Pd v → f [v] = pure (.bl (isI v))
theorem ok_is_number : Sp_is_number (run T call d_is_number) := by
  intro v hv
  unfold run d_is_number c_is_number
  cases v <;> first | (cases hv; done) | simp [isAny, isOne, isI]
theorem ok__law_is_number : Sp_is_number (run T call d__law_is_number) := by
  intro v hv
  unfold run d__law_is_number c__law_is_number
  cases v <;> first | (cases hv; done) | simp [isAny, isOne, isI]
/-! ### divisors -/
theorem fmod_nat (a b : Nat) : Int.fmod (a : Int) (b : Int) = ((a % b : Nat) : Int) := by
  rw [Int.fmod_eq_emod_of_nonneg _ (by omega)]
  rfl
theorem absV (i : Int) : (if i < 0 then -i else i) = (i.natAbs : Int) := by omega
theorem common_loop (b : Nat) : ∀ a : Nat, evS T call (.whl (.cmp .ne (.var 1) (.cst (.int 0))) (.cons (.par 0 1 false false (.var 1) (.bin .mod (.var 0) (.var 1))) .nil)) [.val (.int a), .val (.int b)] = pure (.nx [.val (.int (Nat.gcd a b)), .val (.int 0)]) := by
  induction b using Nat.strongRecOn with
  | ind b ih =>
    intro a
    by_cases hb : b = 0
    · subst hb
      rw [ws_end (by simp [cmpV])]
      simp
    · rw [ws_nx (S' := [.val (.int b), .val (.int ((a % b : Nat) : Int))]) (by simp [cmpV, hb]) (by simp [binV, hb, slotV, fmod_nat])]
      rw [ih (a % b) (Nat.mod_lt _ (by omega)) b]
      rw [Nat.gcd_comm b, ← Nat.gcd_rec, Nat.gcd_comm]
def Sp__law_common (f : List PV → M PV) : Prop := ∀ a b : Int, f [.int a, .int b] = pure (.int (Int.gcd a b))
theorem ok__law_common : Sp__law_common (run T call d__law_common) := by
  intro a b
  unfold run d__law_common c__law_common
  have e := common_loop (T := T) (call := call) b.natAbs a.natAbs
  simp [primV, slotV, absV, e, Int.gcd]
theorem div_loop (b : Nat) (v0 v1 v2 : SV) : ∀ a : Nat, evS T call (.whl (.cmp .ne (.var 4) (.cst (.int 0))) (.cons (.par 3 4 false false (.var 4) (.bin .mod (.var 3) (.var 4))) .nil)) [v0, v1, v2, .val (.int a), .val (.int b)] = pure (.nx [v0, v1, v2, .val (.int (Nat.gcd a b)), .val (.int 0)]) := by
  induction b using Nat.strongRecOn with
  | ind b ih =>
    intro a
    by_cases hb : b = 0
    · subst hb
      rw [ws_end (by simp [cmpV])]
      simp
    · rw [ws_nx (S' := [v0, v1, v2, .val (.int b), .val (.int ((a % b : Nat) : Int))]) (by simp [cmpV, hb]) (by simp [binV, hb, slotV, fmod_nat])]
      rw [ih (a % b) (Nat.mod_lt _ (by omega)) b]
      rw [Nat.gcd_comm b, ← Nat.gcd_rec, Nat.gcd_comm]
/-- the greatest common divisor of numbers -/
def gcdL (g : Nat) (ns : List Int) : Nat := ns.foldl (fun g n => Nat.gcd g n.natAbs) g
theorem div_for (v0 : SV) : ∀ (ns : List Int) (g : Nat) (v2 v3 v4 : SV), ∃ w2 w3 w4, forB T call (.nm 2) (.cons (.par 3 4 false false (.var 1) (.prm .abs (.cons (.var 2) .nil))) (.cons (.whl (.cmp .ne (.var 4) (.cst (.int 0))) (.cons (.par 3 4 false false (.var 4) (.bin .mod (.var 3) (.var 4))) .nil)) (.cons (.asg (.nm 1) (.var 3)) .nil))) (ns.map .int) [v0, .val (.int g), v2, v3, v4] = pure (.nx [v0, .val (.int (gcdL g ns)), w2, w3, w4])
  | [], g, v2, v3, v4 => ⟨v2, v3, v4, rfl⟩
  | n :: ns, g, v2, v3, v4 => by
    obtain ⟨w2, w3, w4, e⟩ := div_for v0 ns (Nat.gcd g n.natAbs) (.val (.int n)) (.val (.int (Nat.gcd g n.natAbs))) (.val (.int 0))
    refine ⟨w2, w3, w4, ?_⟩
    have d := div_loop (T := T) (call := call) n.natAbs v0 (.val (.int g)) (.val (.int n)) g
    rw [List.map_cons, fs_nx (S1 := [v0, .val (.int g), .val (.int n), v3, v4]) (S' := [v0, .val (.int (Nat.gcd g n.natAbs)), .val (.int n), .val (.int (Nat.gcd g n.natAbs)), .val (.int 0)]) (by simp) (by simp [primV, slotV, absV, d]), e]
    rfl
def Sp_divisor_of (f : List PV → M PV) : Prop := (∀ ns : List Int, f [.tup (ns.map .int)] = pure (.int (gcdL 0 ns))) ∧ ∀ ns : List Int, f [.lst (ns.map .int)] = pure (.int (gcdL 0 ns))
theorem ok_divisor_of : Sp_divisor_of (run T call d_divisor_of) := by
  constructor
  · intro ns
    unfold run d_divisor_of c_divisor_of
    obtain ⟨w2, w3, w4, e⟩ := div_for (T := T) (call := call) (.val (.tup (ns.map .int))) ns 0 .non .non .non
    simp only [Int.natCast_zero] at e
    simp [e]
  · intro ns
    unfold run d_divisor_of c_divisor_of
    obtain ⟨w2, w3, w4, e⟩ := div_for (T := T) (call := call) (.val (.lst (ns.map .int))) ns 0 .non .non .non
    simp only [Int.natCast_zero] at e
    simp [e]
theorem gcdL_two (a b : Int) : gcdL 0 [a, b] = Int.gcd a b := by
  simp [gcdL, Int.gcd]
theorem Sp_divisor_of.two {f : List PV → M PV} (h : Sp_divisor_of f) (a b : Int) : f [.tup [.int a, .int b]] = pure (.int (Int.gcd a b)) := by
  rw [← gcdL_two]
  exact h.1 [a, b]
/-! ### ratios -/
/-- numbers that one may divide by -/
def Dv (b : Int) : Prop := b ≠ 0 ∧ b.natAbs < 2 ^ 8000
theorem log_lt {n k : Nat} (h : n < 2 ^ k) (hk : 0 < k) : n.log2 < k := by
  by_cases z : n = 0
  · subst z; simpa using hk
  · exact (Nat.log2_lt z).mpr h
theorem Dv.gdiv {a b : Int} (h : Dv b) : gdiv a b ≠ 0 ∧ (gdiv a b).natAbs.log2 < 9000 := by
  refine ⟨gdiv_ne a b h.1, ?_⟩
  have h1 : (BA.gdiv a b).natAbs ≤ b.natAbs := Nat.le_of_dvd (by have := h.1; omega) (Int.natAbs_dvd_natAbs.mpr (gdiv_dvd_right a b))
  exact Nat.lt_of_lt_of_le (log_lt (Nat.lt_of_le_of_lt h1 h.2) (by decide)) (by decide)
def Sp_ratio_of (f : List PV → M PV) : Prop := ∀ a b : Int, Dv b → f [.int a, .int b] = pure (pQ (Rat.divInt a b))
theorem pQ_divInt (a b : Int) (h : b ≠ 0) : PV.tup [.int (a.fdiv (gdiv a b)), .int (b.fdiv (gdiv a b))] = pQ (Rat.divInt a b) := by
  rw [gdiv_num a b h, gdiv_den a b h]; rfl
theorem ok_ratio_of {f_divisor_of : Nat} (h : Sp_divisor_of (call f_divisor_of)) : Sp_ratio_of (run T call (d_ratio_of f_divisor_of)) := by
  intro a b hb
  obtain ⟨g1, g2⟩ := hb.gdiv (a := a)
  have e1 := binV_fdiv (a := a) g1 g2
  have e2 := binV_fdiv (a := b) g1 g2
  rw [← pQ_divInt a b hb.1]
  unfold run d_ratio_of c_ratio_of
  have e := h.two a b
  by_cases c : 0 < b
  · have eg : gdiv a b = (Int.gcd a b : Int) := if_pos c
    rw [eg] at e1 e2 ⊢
    simp [c, e, e1, e2]
  · have eg : gdiv a b = 0 - (Int.gcd a b : Int) := if_neg c
    rw [eg] at e1 e2 ⊢
    simp only [Int.zero_sub] at e1 e2 ⊢
    simp [c, e, e1, e2]
theorem ok__law_ratio {f__law_common : Nat} (h : Sp__law_common (call f__law_common)) : Sp_ratio_of (run T call (d__law_ratio f__law_common)) := by
  intro a b hb
  obtain ⟨g1, g2⟩ := hb.gdiv (a := a)
  have e1 := binV_fdiv (a := a) g1 g2
  have e2 := binV_fdiv (a := b) g1 g2
  rw [← pQ_divInt a b hb.1]
  unfold run d__law_ratio c__law_ratio
  have e := h a b
  by_cases c : 0 < b
  · have eg : gdiv a b = (Int.gcd a b : Int) := if_pos c
    rw [eg] at e1 e2 ⊢
    simp [c, e, e1, e2]
  · have eg : gdiv a b = 0 - (Int.gcd a b : Int) := if_neg c
    rw [eg] at e1 e2 ⊢
    simp only [Int.zero_sub] at e1 e2 ⊢
    simp [c, e, e1, e2]
/-! ### sums, products -/
theorem mul_ok {a b : Int} {i j : Nat} (h1 : a.natAbs < 2 ^ i) (h2 : b.natAbs < 2 ^ j) (h : i + j ≤ 900000) : a.natAbs.log2 + b.natAbs.log2 < 1000000 := by
  have k1 := log_lt (k := i + 1) (Nat.lt_of_lt_of_le h1 (Nat.pow_le_pow_right (by decide) (Nat.le_succ _))) (by omega)
  have k2 := log_lt (k := j + 1) (Nat.lt_of_lt_of_le h2 (Nat.pow_le_pow_right (by decide) (Nat.le_succ _))) (by omega)
  omega
/-- operations on ratios of at most 3900 figures -/
def Sp_add (f : List PV → M PV) : Prop := ∀ p q, Sz 3900 p → Sz 3900 q → f [pQ p, pQ q] = pure (pQ (p + q))
def Sp_sub (f : List PV → M PV) : Prop := ∀ p q, Sz 3900 p → Sz 3900 q → f [pQ p, pQ q] = pure (pQ (p - q))
def Sp_mul (f : List PV → M PV) : Prop := ∀ p q, Sz 3900 p → Sz 3900 q → f [pQ p, pQ q] = pure (pQ (p * q))
def Sp_lt (f : List PV → M PV) : Prop := ∀ p q, Sz 3900 p → Sz 3900 q → f [pQ p, pQ q] = pure (.bl (decide (p < q)))
def Sp_gt (f : List PV → M PV) : Prop := ∀ p q, Sz 3900 p → Sz 3900 q → f [pQ p, pQ q] = pure (.bl (decide (q < p)))
section
variable {p q : Rat} (hp : Sz 3900 p) (hq : Sz 3900 q)
include hp hq
theorem den_dv : Dv ((p.den : Int) * q.den) := by
  refine ⟨Int.mul_ne_zero (by have := den_pos p; omega) (by have := den_pos q; omega), ?_⟩
  rw [Int.natAbs_mul, Int.natAbs_natCast, Int.natAbs_natCast]
  exact Nat.lt_of_lt_of_le (two_mul_lt hp.2 hq.2) (Nat.pow_le_pow_right (by decide) (by decide))
theorem m_nd : binV .mul (.int p.num) (.int q.den) = some (.int (p.num * q.den)) := binV_mul (mul_ok hp.1 (j := 3900) (by rw [Int.natAbs_natCast]; exact hq.2) (by decide))
theorem m_nn : binV .mul (.int p.num) (.int q.num) = some (.int (p.num * q.num)) := binV_mul (mul_ok hp.1 hq.1 (by decide))
theorem m_dd : binV .mul (.int p.den) (.int q.den) = some (.int (p.den * q.den)) := binV_mul (mul_ok (i := 3900) (j := 3900) (by rw [Int.natAbs_natCast]; exact hp.2) (by rw [Int.natAbs_natCast]; exact hq.2) (by decide))
end
theorem ok_sum_of {f_ratio_of : Nat} (h : Sp_ratio_of (call f_ratio_of)) : Sp_add (run T call (d_sum_of f_ratio_of)) := by
  intro p q hp hq
  have e := h (p.num * q.den + q.num * p.den) (p.den * q.den) (den_dv hp hq)
  rw [rat_add] at e
  unfold run d_sum_of c_sum_of
  simp [pQ_0, pQ_1, m_nd hp hq, m_nd hq hp, m_dd hp hq, e]
theorem ok__law_plus {f__law_ratio : Nat} (h : Sp_ratio_of (call f__law_ratio)) : Sp_add (run T call (d__law_plus f__law_ratio)) := by
  intro p q hp hq
  have e := h (p.num * q.den + q.num * p.den) (p.den * q.den) (den_dv hp hq)
  rw [rat_add] at e
  unfold run d__law_plus c__law_plus
  simp [pQ_0, pQ_1, m_nd hp hq, m_nd hq hp, m_dd hp hq, e]
theorem ok_less_of {f_ratio_of : Nat} (h : Sp_ratio_of (call f_ratio_of)) : Sp_sub (run T call (d_less_of f_ratio_of)) := by
  intro p q hp hq
  have e := h (p.num * q.den - q.num * p.den) (p.den * q.den) (den_dv hp hq)
  rw [rat_sub] at e
  unfold run d_less_of c_less_of
  simp [pQ_0, pQ_1, m_nd hp hq, m_nd hq hp, m_dd hp hq, e]
theorem ok__law_minus {f__law_ratio : Nat} (h : Sp_ratio_of (call f__law_ratio)) : Sp_sub (run T call (d__law_minus f__law_ratio)) := by
  intro p q hp hq
  have e := h (p.num * q.den - q.num * p.den) (p.den * q.den) (den_dv hp hq)
  rw [rat_sub] at e
  unfold run d__law_minus c__law_minus
  simp [pQ_0, pQ_1, m_nd hp hq, m_nd hq hp, m_dd hp hq, e]
theorem ok_product_of {f_ratio_of : Nat} (h : Sp_ratio_of (call f_ratio_of)) : Sp_mul (run T call (d_product_of f_ratio_of)) := by
  intro p q hp hq
  have e := h (p.num * q.num) (p.den * q.den) (den_dv hp hq)
  rw [rat_mul] at e
  unfold run d_product_of c_product_of
  simp [pQ_0, pQ_1, m_nn hp hq, m_dd hp hq, e]
theorem ok__law_times {f__law_ratio : Nat} (h : Sp_ratio_of (call f__law_ratio)) : Sp_mul (run T call (d__law_times f__law_ratio)) := by
  intro p q hp hq
  have e := h (p.num * q.num) (p.den * q.den) (den_dv hp hq)
  rw [rat_mul] at e
  unfold run d__law_times c__law_times
  simp [pQ_0, pQ_1, m_nn hp hq, m_dd hp hq, e]
theorem ok_is_below : Sp_lt (run T call d_is_below) := by
  intro p q hp hq
  unfold run d_is_below c_is_below
  simp [pQ_0, pQ_1, m_nd hp hq, m_nd hq hp, Rat.lt_iff]
theorem ok__law_above : Sp_gt (run T call d__law_above) := by
  intro p q hp hq
  unfold run d__law_above c__law_above
  simp [pQ_0, pQ_1, m_nd hp hq, m_nd hq hp, Rat.lt_iff]
/-! ### what is a ratio -/
def isR : PV → Bool
  | .tup [.int a, .int b] => decide (1 ≤ b) && decide (Int.gcd a b = 1)
  | _ => false
theorem isR_pQ (q : Rat) : isR (pQ q) = true := by
  have h1 := gcd_num_den q
  have h2 := den_pos q
  simp [pQ, isR, h1]
  omega
theorem isR_of {v : PV} (h : isR v = true) : ∃ q, v = pQ q := by
  unfold isR at h
  split at h
  · rename_i a b
    rw [Bool.and_eq_true, decide_eq_true_eq, decide_eq_true_eq] at h
    obtain ⟨h1, h2⟩ := rat_of_pair (by omega) h.2
    refine ⟨Rat.divInt a b, ?_⟩
    unfold pQ
    rw [h1, h2]
  · cases h
def Sp_is_ratio (f : List PV → M PV) : Prop := ∀ v, Pd v → f [v] = pure (.bl (isR v))
theorem isR_len {xs : List PV} (h : xs.length ≠ 2) : isR (.tup xs) = false := by
  unfold isR
  split
  · rename_i a b e
    cases e
    exact absurd rfl h
  · rfl
theorem isR_not {x y : PV} (h : isI x = false ∨ isI y = false) : isR (.tup [x, y]) = false := by
  unfold isR
  split
  · rename_i a b e
    cases e
    rcases h with h | h <;> cases h
  · rfl
theorem len2 {xs : List PV} (h : xs.length = 2) : ∃ x y, xs = [x, y] := by
  cases xs with
  | nil => cases h
  | cons x xs => cases xs with
    | nil => cases h
    | cons y xs => cases xs with
      | nil => exact ⟨x, y, rfl⟩
      | cons z xs => simp at h
theorem len3 {xs : List PV} (h : xs.length = 3) : ∃ x y z, xs = [x, y, z] := by
  cases xs with
  | nil => cases h
  | cons x xs =>
    obtain ⟨y, z, rfl⟩ := len2 (xs := xs) (by simpa using h)
    exact ⟨x, y, z, rfl⟩
theorem dec_one (n : Nat) : decide ((n : Int) = 1) = decide (n = 1) := decide_eq_decide.mpr (by omega)
theorem isI_of {x : PV} (h : isI x = true) : ∃ i, x = .int i := by
  cases x <;> first | exact ⟨_, rfl⟩ | cases h
theorem ok_is_ratio {f_divisor_of f_is_number : Nat} (h1 : Sp_divisor_of (call f_divisor_of)) (h2 : Sp_is_number (call f_is_number)) : Sp_is_ratio (run T call (d_is_ratio f_divisor_of f_is_number)) := by
  intro v hv
  unfold run d_is_ratio c_is_ratio
  cases v with
  | tup xs =>
    by_cases hl : xs.length = 2
    · obtain ⟨x, y, rfl⟩ := len2 hl
      have hx := h2 x (pd_tup.mp hv x (by simp))
      have hy := h2 y (pd_tup.mp hv y (by simp))
      cases e1 : isI x with
      | false => simp [isAny, isOne, hx, e1, isR_not (.inl e1)]
      | true => cases e2 : isI y with
        | false => simp [isAny, isOne, hx, hy, e1, e2, isR_not (.inr e2)]
        | true =>
          obtain ⟨a, rfl⟩ := isI_of e1
          obtain ⟨b, rfl⟩ := isI_of e2
          have e3 := h1.two a b
          by_cases c : 1 ≤ b
          · simp [isAny, isOne, hx, hy, e1, e2, e3, c, isR, dec_one]
          · simp [isAny, isOne, hx, hy, e1, e2, e3, c, isR]
    · have hl' : ¬ ((xs.length : Nat) : Int) = 2 := by omega
      simp [isAny, isOne, hl', isR_len hl]
  | _ => first | (cases hv; done) | simp [isAny, isOne, isR]
theorem ok__law_is_ratio {f__law_common f__law_is_number : Nat} (h1 : Sp__law_common (call f__law_common)) (h2 : Sp_is_number (call f__law_is_number)) : Sp_is_ratio (run T call (d__law_is_ratio f__law_common f__law_is_number)) := by
  intro v hv
  unfold run d__law_is_ratio c__law_is_ratio
  cases v with
  | tup xs =>
    by_cases hl : xs.length = 2
    · obtain ⟨x, y, rfl⟩ := len2 hl
      have hx := h2 x (pd_tup.mp hv x (by simp))
      have hy := h2 y (pd_tup.mp hv y (by simp))
      cases e1 : isI x with
      | false => simp [isAny, isOne, hx, e1, isR_not (.inl e1)]
      | true => cases e2 : isI y with
        | false => simp [isAny, isOne, hx, hy, e1, e2, isR_not (.inr e2)]
        | true =>
          obtain ⟨a, rfl⟩ := isI_of e1
          obtain ⟨b, rfl⟩ := isI_of e2
          have e3 := h1 a b
          by_cases c : 1 ≤ b
          · have c' : 0 < b := by omega
            simp [isAny, isOne, hx, hy, e1, e2, e3, c, c', isR, dec_one]
          · have c' : ¬ 0 < b := by omega
            simp [isAny, isOne, hx, hy, e1, e2, e3, c, c', isR]
    · have hl' : ¬ ((xs.length : Nat) : Int) = 2 := by omega
      simp [isAny, isOne, hl', isR_len hl]
  | _ => first | (cases hv; done) | simp [isAny, isOne, isR]
end
end BA.Li
/-! Pl3 -/
set_option Elab.async false
set_option linter.all false
set_option maxRecDepth 100000
set_option maxHeartbeats 1000000
/-! Pl3: words: figures, ratios. -/
namespace BA.Li
open PySem L2 BA
/-! ### texts by their signs -/
def cs (w : Str) : List Nat := w.cps.toList
abbrev mk (l : List Nat) : Str := ⟨l.toArray⟩
@[simp] theorem cs_mk (l : List Nat) : cs (mk l) = l := rfl
theorem mk_cs (w : Str) : mk (cs w) = w := by cases w; rfl
theorem cs_def (w : Str) : w.cps.toList = cs w := rfl
theorem str_ext {a b : Str} (h : cs a = cs b) : a = b := by rw [← mk_cs a, h, mk_cs]
theorem mk_inj {a b : List Nat} : mk a = mk b ↔ a = b := ⟨fun h => by rw [← cs_mk a, h, cs_mk], fun h => by rw [h]⟩
theorem len_cs (w : Str) : w.length = (cs w).length := Array.length_toList.symm
theorem cs_app (a b : Str) : cs (a ++ b) = cs a ++ cs b := Array.toList_append
def figL : List Nat → List Nat
  | 45 :: r => r
  | l => l
theorem cut_tail (w : Str) : cutS w (some 1) none = mk (cs w).tail := by
  refine str_ext ?_
  unfold cutS
  rw [cs_mk, cs_mk, cs_def]
  have e : w.length = (cs w).length := len_cs w
  rw [e]
  have e2 : ∀ n d, HT.sIx n d (some 1) = min 1 n := fun n d => HT.sIx_nat n d 1
  rw [HT.sIx_none, e2]
  cases h : cs w with
  | nil => rfl
  | cons c l => simp
theorem cut_head (w : Str) : cutS w none (some 1) = mk ((cs w).take 1) := by
  refine str_ext ?_
  unfold cutS
  rw [cs_mk, cs_mk, cs_def]
  have e : w.length = (cs w).length := len_cs w
  rw [e]
  have e2 : ∀ n d, HT.sIx n d (some 1) = min 1 n := fun n d => HT.sIx_nat n d 1
  rw [HT.sIx_none, e2]
  cases h : cs w with
  | nil => rfl
  | cons c l => simp
theorem starts_one (w : Str) (c : Nat) : Txt.startswith w (mk [c]) = decide ((cs w).head? = some c) := by
  unfold Txt.startswith
  rw [StrLaws.subAt_eq, len_cs w, cs_def]
  show (decide (0 + 1 ≤ (cs w).length) && (((cs w).drop 0).take 1 == [c])) = _
  cases h : cs w with
  | nil => rfl
  | cons d l =>
    rw [List.drop_zero]
    have e : decide (0 + 1 ≤ (d :: l).length) = true := decide_eq_true (by simp)
    rw [e, Bool.true_and]
    rw [Bool.eq_iff_iff, beq_iff_eq, decide_eq_true_eq]
    simp
theorem dash : (("-" : String) : Str) = mk [45] := by decide +kernel
theorem zero_ : (("0" : String) : Str) = mk [48] := by decide +kernel
theorem slash : (("/" : String) : Str) = mk [47] := by decide +kernel
theorem comma : (("," : String) : Str) = mk [44] := by decide +kernel
theorem blank_ : ((" " : String) : Str) = mk [32] := by decide +kernel
theorem empty_ : (("" : String) : Str) = mk [] := by decide +kernel
theorem figs_ : (("0123456789" : String) : Str) = mk [48, 49, 50, 51, 52, 53, 54, 55, 56, 57] := by decide +kernel
/-! ### figures -/
def dig (c : Nat) : Bool := decide (48 ≤ c) && decide (c ≤ 57)
def okF (l : List Nat) : Bool := decide (1 ≤ (figL l).length) && (decide ((figL l).length ≤ 9) && ((figL l).all dig && !(decide ((figL l).head? = some 48) && decide (l ≠ [48]))))
/-- the number that a word tells -/
def fig (w : Str) : Option Int := if okF (cs w) = true then intText? w else none
def encO (o : Option Int) : PV := match o with
  | none => .non
  | some i => .int i
theorem digits_lt : ∀ (l : List Nat) (a : Nat), (∀ c ∈ l, 48 ≤ c ∧ c ≤ 57) → l.foldl (fun acc c => acc * 10 + (c - 48)) a < (a + 1) * 10 ^ l.length
  | [], a, _ => by simp
  | c :: l, a, h => by
    rw [List.foldl_cons, List.length_cons, Nat.pow_succ]
    have h1 := digits_lt l (a * 10 + (c - 48)) fun d hd => h d (List.mem_cons_of_mem _ hd)
    have h2 := h c (List.mem_cons_self ..)
    refine Nat.lt_of_lt_of_le h1 ?_
    have h3 : a * 10 + (c - 48) + 1 ≤ (a + 1) * 10 := by omega
    calc (a * 10 + (c - 48) + 1) * 10 ^ l.length ≤ ((a + 1) * 10) * 10 ^ l.length := Nat.mul_le_mul_right _ h3
      _ = (a + 1) * (10 ^ l.length * 10) := by rw [Nat.mul_assoc, Nat.mul_comm 10]
theorem fig_some {w : Str} (h : okF (cs w) = true) : ∃ i, intText? w = some i ∧ i.natAbs < 10 ^ 9 ∧ w.length ≤ 640 := by
  unfold okF at h
  rw [Bool.and_eq_true, Bool.and_eq_true, Bool.and_eq_true, decide_eq_true_eq, decide_eq_true_eq, List.all_eq_true] at h
  obtain ⟨h1, h2, h3, _⟩ := h
  have h3' : NumText.AllDigits (figL (cs w)) := fun c hc => by
    have := h3 c hc
    unfold dig at this
    rw [Bool.and_eq_true, decide_eq_true_eq, decide_eq_true_eq] at this
    exact this
  have hlt : NumText.digitsVal (figL (cs w)) < 10 ^ 9 := by
    have := digits_lt (figL (cs w)) 0 h3'
    unfold NumText.digitsVal
    refine Nat.lt_of_lt_of_le this ?_
    rw [Nat.zero_add, Nat.one_mul]
    exact Nat.pow_le_pow_right (by decide) h2
  have hl := len_cs w
  by_cases c : (cs w).head? = some 45
  · obtain ⟨r, e⟩ : ∃ r, cs w = 45 :: r := by
      cases q : cs w with
      | nil => rw [q] at c; cases c
      | cons a r => rw [q] at c; cases c; exact ⟨r, rfl⟩
    have ef : figL (cs w) = r := by rw [e]; rfl
    rw [ef] at h1 h2 h3' hlt
    rw [e, List.length_cons] at hl
    refine ⟨_, intText_neg e h3' (fun z => by rw [z] at h1; simp at h1) (by omega), ?_, by omega⟩
    rw [Int.natAbs_neg, Int.natAbs_natCast]
    exact hlt
  · have ef : figL (cs w) = cs w := by
      unfold figL
      split
      · rename_i r q
        rw [q] at c
        exact absurd rfl c
      · rfl
    rw [ef] at h1 h2 h3' hlt
    exact ⟨_, intText_digits h3' (fun z => by rw [cs_def] at z; rw [z] at h1; simp at h1) (by omega), by rw [Int.natAbs_natCast]; exact hlt, by omega⟩
theorem fig_lt {w : Str} {i : Int} (h : fig w = some i) : i.natAbs < 10 ^ 9 := by
  unfold fig at h
  split at h
  · rename_i c
    obtain ⟨j, h1, h2, _⟩ := fig_some c
    rw [h1] at h
    cases h
    exact h2
  · cases h
theorem okF_iff (l : List Nat) : okF l = true ↔ (1 ≤ (figL l).length ∧ (figL l).length ≤ 9) ∧ (∀ x ∈ figL l, dig x = true) ∧ ¬ ((figL l).head? = some 48 ∧ l ≠ [48]) := by
  unfold okF
  rw [Bool.and_eq_true, Bool.and_eq_true, Bool.and_eq_true, decide_eq_true_eq, decide_eq_true_eq, List.all_eq_true, Bool.not_eq_true', Bool.and_eq_false_imp, decide_eq_true_eq, decide_eq_false_iff_not]
  constructor
  · rintro ⟨a, b, c, d⟩
    exact ⟨⟨a, b⟩, c, fun z => d z.1 z.2⟩
  · rintro ⟨⟨a, b⟩, c, d⟩
    exact ⟨a, b, c, fun x y => d ⟨x, y⟩⟩
theorem fig_none {w : Str} (h : ¬ okF (cs w) = true) : fig w = none := if_neg h
section
variable {T : Tab} {call : Nat → List PV → M PV}
theorem int_word {w : Str} (h : okF (cs w) = true) : primV .int [.str w] = some (encO (fig w)) := by
  obtain ⟨i, h1, _, h2⟩ := fig_some h
  show (if w.length ≤ 640 then (intText? w).map PV.int else none) = _
  unfold fig
  rw [if_pos h2, if_pos h, h1]
  rfl
def Sp_number_from (f : List PV → M PV) : Prop := ∀ w : Str, f [.str w] = pure (encO (fig w))
theorem figures_if (w : Str) : (if (cs w).head? = some 45 then mk (cs w).tail else w) = mk (figL (cs w)) := by
  cases h : cs w with
  | nil => rw [← mk_cs w, h]; rfl
  | cons a l =>
    by_cases e : a = 45
    · subst e; simp [figL]
    · have : figL (a :: l) = a :: l := by
        unfold figL
        split
        · rename_i q; cases q; exact absurd rfl e
        · rfl
      rw [this]
      have e3 : ¬ (a :: l).head? = some 45 := by simpa using e
      rw [if_neg e3, ← h, mk_cs]
def chV (l : List Nat) : List PV := l.map fun c => .str ⟨#[c]⟩
theorem inV_sign (c : Nat) (y : Str) : inV (.str ⟨#[c]⟩) (.str y) = some (decide (c ∈ cs y)) := rfl
theorem dig_mem (c : Nat) : decide (c ∈ cs (mk [48, 49, 50, 51, 52, 53, 54, 55, 56, 57])) = dig c := by
  rw [cs_mk]
  unfold dig
  rw [Bool.eq_iff_iff, Bool.and_eq_true, decide_eq_true_eq, decide_eq_true_eq, decide_eq_true_eq]
  simp
  omega
abbrev HasC (T : Tab) (k : Nat) (v : PV) : Prop := ∃ x, T.consts[k]? = some (x, v)
theorem chV_filter (l : List Nat) : ∀ x ∈ (l.map fun c => PV.str ⟨#[c]⟩), Pd x := fun x hx => by
  obtain ⟨c, _, rfl⟩ := List.mem_map.mp hx
  rfl
theorem ok_number_from {k_FIGURES k_MOST_FIGURES : Nat} (h1 : HasC T k_FIGURES (.str "0123456789")) (h2 : HasC T k_MOST_FIGURES (.int 9)) : Sp_number_from (run T call (d_number_from k_FIGURES k_MOST_FIGURES)) := by
  intro w
  obtain ⟨_, h1⟩ := h1
  obtain ⟨_, h2⟩ := h2
  unfold run d_number_from c_number_from
  have e1 : mthV .startswith (.str w) [.str "-"] = some (.bl (decide ((cs w).head? = some 45))) := by
    show some (PV.bl (Txt.startswith w "-")) = _
    rw [dash, starts_one]
  have e2 : (if (cs w).head? = some 45 then (pure (PV.str (mk (cs w).tail)) : M PV) else pure (.str w)) = pure (.str (mk (figL (cs w)))) := by
    rw [← figures_if w]
    split <;> rfl
  have e3 : cmpB T call (.nm 2) (.cmp .nin (.var 2) (.glb k_FIGURES)) (.cst (.int 1)) ((figL (cs w)).map fun c => .str ⟨#[c]⟩) [.val (.str w), .val (.str (mk (figL (cs w)))), .non] = pure (.lst (((figL (cs w)).filter fun c => !dig c).map fun _ => .int 1)) := by
    refine cm_filter (E := fun c => [.val (.str w), .val (.str (mk (figL (cs w)))), .val (.str ⟨#[c]⟩)]) (fun c _ => by simp [IT.slots, wipeE]) rfl (fun c _ => ?_) fun c _ _ => rfl
    simp [h1, figs_, inV_sign, dig_mem, -cs_mk]
  have e4 : ∀ l : List Nat, eqV (.lst (l.map fun _ => .int 1)) (.lst []) = some l.isEmpty := fun l => by
    rw [eqV_lst_nil (fun x hx => by obtain ⟨c, _, rfl⟩ := List.mem_map.mp hx; rfl)]
    cases l <;> rfl
  have e5 : mthV .startswith (.str (mk (figL (cs w)))) [.str "0"] = some (.bl (decide ((figL (cs w)).head? = some 48))) := by
    show some (PV.bl (Txt.startswith (mk (figL (cs w))) "0")) = _
    rw [zero_, starts_one, cs_mk]
  have e6 : eqV (.str w) (.str "0") = some (decide (cs w = [48])) := by
    rw [eqV_str, zero_]
    exact congrArg some (decide_eq_decide.mpr ⟨fun h => by rw [h, cs_mk], fun h => by rw [← mk_cs w, h]⟩)
  have l1 : ((mk (figL (cs w))).length : Int) = (figL (cs w)).length := by rw [len_cs, cs_mk]
  have e7 : ((figL (cs w)).filter fun c => !dig c).isEmpty = (figL (cs w)).all dig := by
    rw [Bool.eq_iff_iff, List.isEmpty_iff, List.filter_eq_nil_iff, List.all_eq_true]
    simp
  simp [h2, e1, slcV, IE.isNil, cut_tail, e2, e3, e4, e5, e6, e7, l1, cs_def]
  have ho := okF_iff (cs w)
  split
  · rename_i c
    have : ¬ okF (cs w) = true := by
      rw [ho]
      rintro ⟨⟨a, b⟩, c2, d⟩
      rcases c with c | ⟨x, hx, hd⟩
      · have := c (by omega)
        omega
      · rw [c2 x hx] at hd; cases hd
    simp [fig_none this, encO]
  · rename_i c
    rw [M.pure_bind]
    simp [e5, e6]
    split
    · rename_i d
      have : ¬ okF (cs w) = true := by
        rw [ho]
        exact fun z => z.2.2 d
      simp [fig_none this, encO]
    · rename_i d
      have : okF (cs w) = true := by
        rw [ho]
        refine ⟨⟨?_, ?_⟩, fun x hx => ?_, d⟩
        · omega
        · omega
        · cases q : dig x with
          | true => rfl
          | false => exact absurd (.inr ⟨x, hx, q⟩) c
      simp [int_word this]
end
end BA.Li
/-! Pl4 -/
set_option Elab.async false
set_option linter.all false
set_option maxRecDepth 100000
set_option maxHeartbeats 1000000
/-! Pl4: words of ratios, there and back. -/
namespace BA.Li
open PySem L2 BA
section
variable {T : Tab} {call : Nat → List PV → M PV}
theorem ok__law_figures : Sp_number_from (run T call d__law_figures) := by
  intro w
  unfold run d__law_figures c__law_figures
  have e1 : eqV (.str (mk ((cs w).take 1))) (.str "-") = some (decide ((cs w).head? = some 45)) := by
    rw [eqV_str, dash]
    refine congrArg some (decide_eq_decide.mpr ?_)
    rw [mk_inj]
    cases cs w with
    | nil => simp
    | cons a l => simp
  have e2 : (if (cs w).head? = some 45 then (pure (PV.str (mk (cs w).tail)) : M PV) else pure (.str w)) = pure (.str (mk (figL (cs w)))) := by
    rw [← figures_if w]
    split <;> rfl
  have e3 : cmpB T call (.nm 2) (.cmp .nin (.var 2) (.cst (.str "0123456789"))) (.var 2) ((figL (cs w)).map fun c => .str ⟨#[c]⟩) [.val (.str w), .val (.str (mk (figL (cs w)))), .non] = pure (.lst (((figL (cs w)).filter fun c => !dig c).map fun c => .str ⟨#[c]⟩)) := by
    refine cm_filter (E := fun c => [.val (.str w), .val (.str (mk (figL (cs w)))), .val (.str ⟨#[c]⟩)]) (fun c _ => by simp [IT.slots, wipeE]) rfl (fun c _ => ?_) fun c _ _ => rfl
    simp [figs_, inV_sign, dig_mem, -cs_mk]
  have e4 : ∀ l : List Nat, eqV (.lst (l.map fun c => .str ⟨#[c]⟩)) (.lst []) = some l.isEmpty := fun l => by
    rw [eqV_lst_nil (chV_filter l)]
    cases l <;> rfl
  have e6 : eqV (.str w) (.str "0") = some (decide (cs w = [48])) := by
    rw [eqV_str, zero_]
    exact congrArg some (decide_eq_decide.mpr ⟨fun h => by rw [h, cs_mk], fun h => by rw [← mk_cs w, h]⟩)
  have l1 : ((mk (figL (cs w))).length : Int) = (figL (cs w)).length := by rw [len_cs, cs_mk]
  have e7 : ((figL (cs w)).filter fun c => !dig c).isEmpty = (figL (cs w)).all dig := by
    rw [Bool.eq_iff_iff, List.isEmpty_iff, List.filter_eq_nil_iff, List.all_eq_true]
    simp
  have ho := okF_iff (cs w)
  cases q : figL (cs w) with
  | nil =>
    rw [q] at e2 e3 e7 ho l1
    have : ¬ okF (cs w) = true := by rw [ho]; simp
    simp [slcV, IE.isNil, cut_tail, cut_head, e1, e2, e3, e4, e7, l1, cs_def, fig_none this, encO]
  | cons a l =>
    have e5 : eqV (.str ⟨#[a]⟩) (.str "0") = some (decide ((figL (cs w)).head? = some 48)) := by
      rw [eqV_str, zero_, q]
      refine congrArg some (decide_eq_decide.mpr ?_)
      rw [show (⟨#[a]⟩ : Str) = mk [a] from rfl, mk_inj]
      simp
    have e8 : ixV (.str (mk (figL (cs w)))) (.int 0) = some (.str ⟨#[a]⟩) := by
      rw [q]
      show (atI (a :: l) 0).map _ = _
      unfold atI ixN
      simp
    have l2 : 1 ≤ ((figL (cs w)).length : Int) := by rw [q, List.length_cons]; omega
    simp [slcV, IE.isNil, cut_tail, cut_head, e1, e2, e3, e4, e7, e5, e6, e8, l1, l2, cs_def]
    split
    · rename_i c
      have : ¬ okF (cs w) = true := by
        rw [ho]
        rintro ⟨⟨a, b⟩, c2, d⟩
        rcases c with c | ⟨x, hx, hd⟩ | c
        · omega
        · rw [c2 x hx] at hd; cases hd
        · exact d c
      simp [fig_none this, encO]
    · rename_i c
      have : okF (cs w) = true := by
        rw [ho]
        refine ⟨⟨?_, ?_⟩, fun x hx => ?_, fun d => c (.inr (.inr d))⟩
        · omega
        · omega
        · cases q : dig x with
          | true => rfl
          | false => exact absurd (.inr (.inl ⟨x, hx, q⟩)) c
      simp [int_word this]
/-! ### words of ratios -/
def sI (i : Int) : Str := Str.ofString (toString i)
theorem sI_len {i : Int} (h : i.natAbs < 2 ^ 1900) : (sI i).length ≤ 2000 := by
  have key : ∀ n : Nat, n < 2 ^ 1900 → (TL.numL n).length ≤ 1900 := fun n hn => TL.numL_len (by decide) (Nat.lt_of_lt_of_le hn (Nat.pow_le_pow_left (by decide) _))
  show (Str.ofString (toString i)).length ≤ 2000
  cases i with
  | ofNat n =>
    have e := TL.tl_num n
    rw [TL.len_tl]
    have e2 : Str.ofString (toString (Int.ofNat n)) = Str.ofString (toString ((n : Nat) : Int)) := rfl
    rw [e2, e]
    have := key n h
    omega
  | negSucc n =>
    have e2 : toString (Int.negSucc n) = "-" ++ toString (n + 1) := rfl
    rw [TL.len_tl, TL.tl_ofString, e2, String.toList_append, List.map_append, List.length_append]
    have e3 : (toString (n + 1)).toList.map Char.toNat = TL.numL (n + 1) := by
      have := TL.tl_num (n + 1)
      rw [TL.tl_ofString] at this
      exact this
    rw [e3]
    have := key (n + 1) h
    have h4 : (List.map Char.toNat "-".toList).length = 1 := by decide
    omega
theorem primV_str {i : Int} (h : i.natAbs < 2 ^ 1900) : primV .str [.int i] = some (.str (sI i)) := if_pos (Nat.lt_of_lt_of_le (log_lt h (by decide)) (by decide))
def rwS (q : Rat) : Str := if q.den = 1 then sI q.num else sI q.num ++ ("/" : Str) ++ sI q.den
theorem rwS_len {q : Rat} (h : Sz 1900 q) : (rwS q).length ≤ 4001 := by
  have h1 := sI_len h.1
  have h2 := sI_len (i := q.den) (by rw [Int.natAbs_natCast]; exact h.2)
  have h3 : (("/" : String) : Str).length = 1 := by decide +kernel
  unfold rwS
  split
  · omega
  · rw [Str.length_append, Str.length_append]
    omega
def Sp_ratio_word (f : List PV → M PV) : Prop := ∀ q, Sz 1900 q → f [pQ q] = pure (.str (rwS q))
theorem ok_ratio_word : Sp_ratio_word (run T call d_ratio_word) := by
  intro q hq
  have h1 := sI_len hq.1
  have h2 := sI_len (i := q.den) (by rw [Int.natAbs_natCast]; exact hq.2)
  have h3 : (("/" : String) : Str).length = 1 := by decide +kernel
  have hz : 16777216 = sizeLine := by decide
  have e1 := primV_str hq.1
  have e2 := primV_str (i := q.den) (by rw [Int.natAbs_natCast]; exact hq.2)
  have b1 : binV .add (.str (sI q.num)) (.str "/") = some (.str (sI q.num ++ ("/" : Str))) := binV_strs (by omega)
  have b2 : binV .add (.str (sI q.num ++ ("/" : Str))) (.str (sI q.den)) = some (.str (sI q.num ++ ("/" : Str) ++ sI q.den)) := binV_strs (by rw [Str.length_append]; omega)
  unfold run d_ratio_word c_ratio_word rwS
  have c' : decide ((q.den : Int) = 1) = decide (q.den = 1) := dec_one _
  by_cases c : q.den = 1
  · simp [pQ_0, pQ_1, e1, c]
  · have c2 : ¬ ((q.den : Int) = 1) := by omega
    simp [pQ_0, pQ_1, e1, e2, b1, b2, c, c2]
theorem ok__law_ratio_word : Sp_ratio_word (run T call d__law_ratio_word) := by
  intro q hq
  have h1 := sI_len hq.1
  have h2 := sI_len (i := q.den) (by rw [Int.natAbs_natCast]; exact hq.2)
  have h3 : (("/" : String) : Str).length = 1 := by decide +kernel
  have h4 : (("" : String) : Str).length = 0 := by decide +kernel
  have hz : 16777216 = sizeLine := by decide
  have e1 := primV_str hq.1
  have e2 := primV_str (i := q.den) (by rw [Int.natAbs_natCast]; exact hq.2)
  have b0 : binV .add (.str (sI q.num)) (.str "") = some (.str (sI q.num)) := by
    rw [binV_strs (by omega)]
    have : (("" : String) : Str) = Str.empty := by decide +kernel
    rw [this, Str.append_empty]
  have b1 : binV .add (.str "/") (.str (sI q.den)) = some (.str (("/" : Str) ++ sI q.den)) := binV_strs (by omega)
  have b2 : binV .add (.str (sI q.num)) (.str (("/" : Str) ++ sI q.den)) = some (.str (sI q.num ++ ("/" : Str) ++ sI q.den)) := by
    rw [binV_strs (by rw [Str.length_append]; omega), Str.append_assoc]
  unfold run d__law_ratio_word c__law_ratio_word rwS
  by_cases c : q.den = 1
  · simp [pQ_0, pQ_1, e1, c, b0]
  · have c2 : ¬ ((q.den : Int) = 1) := by omega
    simp [pQ_0, pQ_1, e1, e2, b1, b2, c, c2]
/-! ### numbers of words -/
theorem pd_encO (o : Option Int) : Pd (encO o) := by cases o <;> rfl
theorem isNon_encO (o : Option Int) : isNonV (encO o) = o.isNone := by cases o <;> rfl
/-- all of a list's answers, none if one is lacking -/
def allS {α : Type} : List (Option α) → Option (List α)
  | [] => some []
  | none :: _ => none
  | some a :: l => (allS l).map (a :: ·)
theorem allS_none {α : Type} : ∀ {l : List (Option α)}, allS l = none ↔ l.any Option.isNone = true
  | [] => by simp [allS]
  | none :: l => by simp [allS]
  | some a :: l => by simp [allS, allS_none (l := l)]
theorem allS_some {α : Type} : ∀ {l : List (Option α)} {xs : List α}, allS l = some xs ↔ l = xs.map some
  | [], xs => by cases xs <;> simp [allS]
  | none :: l, xs => by cases xs <;> simp [allS]
  | some a :: l, xs => by
    cases xs with
    | nil => simp [allS]
    | cons x xs =>
      simp only [allS, Option.map_eq_some_iff, allS_some (l := l), List.map_cons, List.cons.injEq, Option.some.injEq]
      constructor
      · rintro ⟨y, rfl, rfl, rfl⟩; exact ⟨rfl, rfl⟩
      · rintro ⟨rfl, rfl⟩; exact ⟨_, rfl, rfl, rfl⟩
def encOL (o : Option (List Int)) : PV := match o with
  | none => .non
  | some l => .tup (l.map .int)
def Sp_numbers_from (f : List PV → M PV) : Prop := ∀ ws : List Str, f [.lst (ws.map .str)] = pure (encOL (allS (ws.map fig)))
theorem any_encO (ws : List Str) : ((ws.map fun w => encO (fig w)).any isNonV) = (ws.map fig).any Option.isNone := by
  rw [List.any_map, List.any_map]
  congr 1
  funext w
  exact isNon_encO _
theorem ok_numbers_from {f_number_from : Nat} (h : Sp_number_from (call f_number_from)) : Sp_numbers_from (run T call (d_numbers_from f_number_from)) := by
  intro ws
  unfold run d_numbers_from c_numbers_from
  have e1 : cmpB T call (.nm 2) .nil (.cal f_number_from (.cons (.var 2) .nil)) (ws.map .str) [.val (.lst (ws.map .str)), .non, .non] = pure (.lst (ws.map fun w => encO (fig w))) := by
    refine cm_map (E := fun w => [.val (.lst (ws.map .str)), .non, .val (.str w)]) (fun c _ => by simp [IT.slots, wipeE]) fun w _ => ?_
    simp [h w]
  have e2 := inV_non (ys := ws.map fun w => encO (fig w)) (fun y hy => by obtain ⟨w, _, rfl⟩ := List.mem_map.mp hy; exact pd_encO _)
  rw [any_encO] at e2
  cases q : allS (ws.map fig) with
  | none =>
    rw [allS_none.mp q] at e2
    simp [e1, e2, encOL]
  | some xs =>
    have e3 : (ws.map fig).any Option.isNone = false := by
      cases r : (ws.map fig).any Option.isNone with
      | false => rfl
      | true => rw [allS_none.mpr r] at q; cases q
    rw [e3] at e2
    have e4 : (ws.map fun w => encO (fig w)) = xs.map .int := by
      have := congrArg (List.map encO) (allS_some.mp q)
      rw [List.map_map, List.map_map] at this
      exact this
    rw [e4] at e1 e2
    simp [e1, e2, encOL]
/-! ### ratios of words -/
/-- the ratio that a word tells -/
def rat1 (w : Str) (os : List (Option Int)) : Option Rat := match os with
  | [some a] => if rwS (Rat.divInt a 1) = w then some (Rat.divInt a 1) else none
  | [some a, some b] => if 1 ≤ b ∧ Int.gcd a b = 1 ∧ rwS (Rat.divInt a b) = w then some (Rat.divInt a b) else none
  | _ => none
def parts (w : Str) (s : Str) : List Str := Txt.split w s
def ratW (w : Str) : Option Rat := rat1 w ((parts w "/").map fig)
def encR (o : Option Rat) : PV := match o with
  | none => .non
  | some q => pQ q
theorem pd_encR (o : Option Rat) : Pd (encR o) := by cases o <;> rfl
def Sp_ratio_from (f : List PV → M PV) : Prop := ∀ w : Str, w.length + 2 ≤ sizeLine → f [.str w] = pure (encR (ratW w))
theorem lt30 {i : Int} (h : i.natAbs < 10 ^ 9) : i.natAbs < 2 ^ 1900 := Nat.lt_of_lt_of_le h (Nat.le_trans (show 10 ^ 9 ≤ 2 ^ 30 by decide) (Nat.pow_le_pow_right (by decide) (by decide)))
theorem pQ_pair {a b : Int} (hb : 0 < b) (hg : Int.gcd a b = 1) : PV.tup [.int a, .int b] = pQ (Rat.divInt a b) := by
  obtain ⟨h1, h2⟩ := rat_of_pair hb hg
  unfold pQ
  rw [h1, h2]
theorem sz_pair {k : Nat} {a b : Int} (hb : 0 < b) (ha : a.natAbs < 2 ^ k) (hb2 : b.natAbs < 2 ^ k) : Sz k (Rat.divInt a b) := sz_divInt (by omega) ha hb2
theorem pQ_whole (a : Int) : PV.tup [.int a, .int 1] = pQ (Rat.divInt a 1) := pQ_pair (by decide) (by simp)
theorem split_mth {w s : Str} (hs : s.length ≠ 0) (h : w.length + 2 ≤ sizeLine) : mthV .split (.str w) [.str s] = some (.lst ((parts w s).map .str)) := if_pos ⟨hs, h⟩
theorem parts_ne (w s : Str) : parts w s ≠ [] := by
  unfold parts Txt.split
  split
  · simp
  · split
    · simp
    · intro h
      have := PySem.length_partsBetween w (Builtin.Str.occurrences w s 0 w.length (w.length + 1)) s.length
      rw [h] at this
      simp at this
theorem rat1_lt {w : Str} {q : Rat} (h : ratW w = some q) : (q.num.natAbs < 10 ^ 9 ∧ q.den < 10 ^ 9) ∧ rwS q = w := by
  have pr : ∀ {a b : Int}, 0 < b → Int.gcd a b = 1 → a.natAbs < 10 ^ 9 → b.natAbs < 10 ^ 9 → (Rat.divInt a b).num.natAbs < 10 ^ 9 ∧ (Rat.divInt a b).den < 10 ^ 9 := fun h1 h2 h3 h4 => by
    obtain ⟨a1, a2⟩ := rat_of_pair h1 h2
    rw [a1]
    exact ⟨h3, by omega⟩
  unfold ratW rat1 at h
  split at h
  · rename_i a e
    split at h
    · rename_i c
      cases h
      have : some a ∈ (parts w "/").map fig := by rw [e]; simp
      obtain ⟨z, _, hz⟩ := List.mem_map.mp this
      exact ⟨pr (by decide) (by simp) (fig_lt hz) (by decide), c⟩
    · cases h
  · rename_i a b e
    split at h
    · rename_i c
      cases h
      have m1 : some a ∈ (parts w "/").map fig := by rw [e]; simp
      have m2 : some b ∈ (parts w "/").map fig := by rw [e]; simp
      obtain ⟨z1, _, h1⟩ := List.mem_map.mp m1
      obtain ⟨z2, _, h2⟩ := List.mem_map.mp m2
      exact ⟨pr (by omega) c.2.1 (fig_lt h1) (fig_lt h2), c.2.2⟩
    · cases h
  · cases h
theorem slash_len : (("/" : String) : Str).length ≠ 0 := by decide +kernel
theorem eqV_w (a b : Str) : eqV (.str a) (.str b) = some (decide (a = b)) := rfl
theorem isR_ints (a b : Int) : isR (.tup [.int a, .int b]) = (decide (1 ≤ b) && decide (Int.gcd a b = 1)) := rfl
theorem ok_ratio_from {f_is_ratio f_numbers_from f_ratio_word : Nat} (h1 : Sp_is_ratio (call f_is_ratio)) (h2 : Sp_numbers_from (call f_numbers_from)) (h3 : Sp_ratio_word (call f_ratio_word)) : Sp_ratio_from (run T call (d_ratio_from f_is_ratio f_numbers_from f_ratio_word)) := by
  intro w hw
  unfold run d_ratio_from c_ratio_from
  have e1 := split_mth slash_len hw
  have e2 := h2 (parts w "/")
  have hlt : ∀ a, some a ∈ (parts w "/").map fig → a.natAbs < 2 ^ 1900 := fun a m => by
    obtain ⟨z, _, hz⟩ := List.mem_map.mp m
    exact lt30 (fig_lt hz)
  unfold ratW
  generalize (parts w "/").map fig = os at *
  cases q : allS os with
  | none =>
    have : rat1 w os = none := by
      unfold rat1
      split
      · cases q
      · cases q
      · rfl
    rw [q] at e2
    simp [e1, e2, encOL, isNonV, this, encR]
  | some xs =>
    have := allS_some.mp q
    subst this
    rw [q] at e2
    cases xs with
    | nil =>
      have e3 := h1 (.tup []) rfl
      simp [e1, e2, encOL, isNonV, rat1, encR, e3, isR]
    | cons a xs => cases xs with
      | nil =>
        have e3 := h1 (.tup [.int a, .int 1]) rfl
        have e4 := h3 (Rat.divInt a 1) (sz_pair (by decide) (hlt a (by simp)) (Nat.lt_of_lt_of_le (show (1 : Int).natAbs < 2 ^ 1 by decide) (Nat.pow_le_pow_right (by decide) (by decide))))
        rw [← pQ_whole] at e4
        have hz : 2 ≤ sizeLine := by decide
        by_cases c : rwS (Rat.divInt a 1) = w
        · simp [e1, e2, encOL, isNonV, rat1, encR, e3, isR_ints, e4, c, hz]
          rw [pQ_whole]
        · simp [e1, e2, encOL, isNonV, rat1, encR, e3, isR_ints, e4, c, hz]
      | cons b xs => cases xs with
        | nil =>
          have e3 := h1 (.tup [.int a, .int b]) rfl
          by_cases c1 : 1 ≤ b
          · by_cases c2 : Int.gcd a b = 1
            · have e4 := h3 (Rat.divInt a b) (sz_pair (by omega) (hlt a (by simp)) (hlt b (by simp)))
              rw [← pQ_pair (by omega) c2] at e4
              by_cases c : rwS (Rat.divInt a b) = w
              · simp [e1, e2, encOL, isNonV, rat1, encR, e3, isR_ints, e4, c, c1, c2]
                rw [pQ_pair (by omega) c2]
              · simp [e1, e2, encOL, isNonV, rat1, encR, e3, isR_ints, e4, c, c1, c2]
            · simp [e1, e2, encOL, isNonV, rat1, encR, e3, isR_ints, c1, c2]
          · simp [e1, e2, encOL, isNonV, rat1, encR, e3, isR_ints, c1]
        | cons d xs =>
          have l : (2 : Int) < xs.length + 1 + 1 + 1 := by omega
          simp [e1, e2, encOL, isNonV, rat1, encR, l]
theorem ok__law_ratio_of {f__law_figures f__law_is_ratio f__law_ratio_word : Nat} (h1 : Sp_number_from (call f__law_figures)) (h2 : Sp_is_ratio (call f__law_is_ratio)) (h3 : Sp_ratio_word (call f__law_ratio_word)) : Sp_ratio_from (run T call (d__law_ratio_of f__law_figures f__law_is_ratio f__law_ratio_word)) := by
  intro w hw
  unfold run d__law_ratio_of c__law_ratio_of
  have e1 := split_mth slash_len hw
  have e2 : cmpB T call (.nm 3) .nil (.cal f__law_figures (.cons (.var 3) .nil)) ((parts w "/").map .str) [.val (.str w), .non, .non, .non] = pure (.lst (((parts w "/").map fig).map encO)) := by
    rw [List.map_map]
    refine cm_map (E := fun z => [.val (.str w), .non, .non, .val (.str z)]) (fun c _ => by simp [IT.slots, wipeE]) fun z _ => ?_
    simp [h1 z]
  have hlt : ∀ a, some a ∈ (parts w "/").map fig → a.natAbs < 2 ^ 1900 := fun a m => by
    obtain ⟨z, _, hz⟩ := List.mem_map.mp m
    exact lt30 (fig_lt hz)
  have hne : (parts w "/").map fig ≠ [] := fun z => parts_ne w "/" (List.map_eq_nil_iff.mp z)
  unfold ratW
  generalize (parts w "/").map fig = os at *
  have e5 := inV_non_lst (ys := os.map encO) (fun y hy => by obtain ⟨w, _, rfl⟩ := List.mem_map.mp hy; exact pd_encO _)
  have e6 : (os.map encO).any isNonV = os.any Option.isNone := by
    rw [List.any_map]
    congr 1
    funext o
    exact isNon_encO o
  rw [e6] at e5
  cases q : allS os with
  | none =>
    have : rat1 w os = none := by
      unfold rat1
      split
      · cases q
      · cases q
      · rfl
    rw [allS_none.mp q] at e5
    simp [e1, e2, e5, this, encR]
  | some xs =>
    have e7 : os.any Option.isNone = false := by
      cases r : os.any Option.isNone with
      | false => rfl
      | true => rw [allS_none.mpr r] at q; cases q
    rw [e7] at e5
    have := allS_some.mp q
    subst this
    rw [List.map_map] at e2 e5
    cases xs with
    | nil => exact absurd rfl hne
    | cons a xs => cases xs with
      | nil =>
        have e3 := h2 (.tup [.int a, .int 1]) rfl
        have e4 := h3 (Rat.divInt a 1) (sz_pair (by decide) (hlt a (by simp)) (Nat.lt_of_lt_of_le (show (1 : Int).natAbs < 2 ^ 1 by decide) (Nat.pow_le_pow_right (by decide) (by decide))))
        rw [← pQ_whole] at e4
        have e5' : inV .non (.lst [.int a]) = some false := e5
        by_cases c : rwS (Rat.divInt a 1) = w
        · simp [e1, e2, e5', encO, rat1, encR, e3, isR_ints, e4, c]
          rw [pQ_whole]
        · simp [e1, e2, e5', encO, rat1, encR, e3, isR_ints, e4, c]
      | cons b xs => cases xs with
        | nil =>
          have e3 := h2 (.tup [.int a, .int b]) rfl
          have e5' : inV .non (.lst [.int a, .int b]) = some false := e5
          by_cases c1 : 1 ≤ b
          · by_cases c2 : Int.gcd a b = 1
            · have e4 := h3 (Rat.divInt a b) (sz_pair (by omega) (hlt a (by simp)) (hlt b (by simp)))
              rw [← pQ_pair (by omega) c2] at e4
              by_cases c : rwS (Rat.divInt a b) = w
              · simp [e1, e2, e5', encO, rat1, encR, e3, isR_ints, e4, c, c1, c2]
                rw [pQ_pair (by omega) c2]
              · simp [e1, e2, e5', encO, rat1, encR, e3, isR_ints, e4, c, c1, c2]
            · simp [e1, e2, e5', encO, rat1, encR, e3, isR_ints, c1, c2]
          · simp [e1, e2, e5', encO, rat1, encR, e3, isR_ints, c1]
        | cons d xs =>
          have l : (2 : Int) < xs.length + 1 + 1 + 1 := by omega
          have e5' : inV .non (.lst (.int a :: .int b :: .int d :: xs.map (encO ∘ some))) = some false := e5
          simp [e1, e2, e5', encO, rat1, encR, l]
/-! ### triples of words, lines -/
def encL (o : Option (List Rat)) : PV := match o with
  | none => .non
  | some l => .tup (l.map pQ)
def Sp_triple_from (f : List PV → M PV) : Prop := ∀ w : Str, w.length + 2 ≤ sizeLine → f [.str w] = pure (encL (allS ((parts w ",").map ratW)))
theorem isNon_encR (o : Option Rat) : isNonV (encR o) = o.isNone := by cases o <;> rfl
theorem comma_len : ((("," : String) : Str)).length ≠ 0 := by decide +kernel
theorem space_len : (((" " : String) : Str)).length ≠ 0 := by decide +kernel
theorem join_parts (w s : Str) : Txt.join s (parts w s) = w := by
  have one : Txt.join s [w] = w := by
    show Builtin.Str.glued s [w] = w
    rw [StrLaws.glued_eq_join]
    rfl
  unfold parts Txt.split
  split
  · exact one
  · split
    · exact one
    · exact StrLaws.glued_between_self w s _
theorem sum_len (w s : Str) : ((parts w s).map (·.length)).sum + ((parts w s).length - 1) * s.length = w.length := by
  rw [← size_glued]
  exact congrArg Str.length (join_parts w s)
theorem le_sum {l : List Str} : ∀ p ∈ l, p.length ≤ (l.map (·.length)).sum := by
  induction l with
  | nil => intro p hp; cases hp
  | cons x l ih =>
    intro p hp
    rw [List.map_cons, List.sum_cons]
    rcases List.mem_cons.mp hp with rfl | hp
    · omega
    · have := ih p hp
      omega
theorem parts_len {w s : Str} (hs : s.length ≠ 0) : ∀ p ∈ parts w s, p.length ≤ w.length := by
  intro p hp
  have h1 := sum_len w s
  have h2 := le_sum p hp
  omega
theorem ok_triple_from {f_ratio_from : Nat} (h : Sp_ratio_from (call f_ratio_from)) : Sp_triple_from (run T call (d_triple_from f_ratio_from)) := by
  intro w hw
  unfold run d_triple_from c_triple_from
  have e1 := split_mth comma_len hw
  have e2 : cmpB T call (.nm 2) .nil (.cal f_ratio_from (.cons (.var 2) .nil)) ((parts w ",").map .str) [.val (.str w), .non, .non] = pure (.lst (((parts w ",").map ratW).map encR)) := by
    rw [List.map_map]
    refine cm_map (E := fun z => [.val (.str w), .non, .val (.str z)]) (fun c _ => by simp [IT.slots, wipeE]) fun z hz => ?_
    have := parts_len comma_len z hz
    simp [h z (by omega)]
  generalize (parts w ",").map ratW = os at *
  have e5 := inV_non (ys := os.map encR) (fun y hy => by obtain ⟨w, _, rfl⟩ := List.mem_map.mp hy; exact pd_encR _)
  have e6 : (os.map encR).any isNonV = os.any Option.isNone := by
    rw [List.any_map]
    congr 1
    funext o
    exact isNon_encR o
  rw [e6] at e5
  cases q : allS os with
  | none =>
    rw [allS_none.mp q] at e5
    simp [e1, e2, e5, encL]
  | some xs =>
    have e7 : os.any Option.isNone = false := by
      cases r : os.any Option.isNone with
      | false => rfl
      | true => rw [allS_none.mpr r] at q; cases q
    rw [e7] at e5
    have := allS_some.mp q
    subst this
    rw [List.map_map] at e2 e5
    have e8 : encR ∘ some = pQ := rfl
    rw [e8] at e2 e5
    simp [e1, e2, e5, encL]
end
end BA.Li
/-! Pl5 -/
set_option Elab.async false
set_option linter.all false
set_option maxRecDepth 100000
set_option maxHeartbeats 1000000
/-! Pl5: profiles. -/
namespace BA.Li
open PySem L2 BA
abbrev Tri := Rat × Rat × Rat
def pT (t : Tri) : PV := .tup [pQ t.1, pQ t.2.1, pQ t.2.2]
def e3 (xs : List Tri) : PV := .tup (xs.map pT)
def SzT (k : Nat) (t : Tri) : Prop := Sz k t.1 ∧ Sz k t.2.1 ∧ Sz k t.2.2
theorem pd_pT (t : Tri) : Pd (pT t) := rfl
theorem pd_e3 (xs : List Tri) : Pd (e3 xs) := pd_tup.mpr fun x hx => by
  obtain ⟨t, _, rfl⟩ := List.mem_map.mp hx
  exact pd_pT t
/-- the triple in range -/
def tOk (t : Tri) : Bool := decide (0 ≤ t.1) && (decide (0 ≤ t.2.2) && decide (t.2.2 ≤ 1))
/-- one triple behind another -/
def goT (s t : Tri) : Bool := decide (s.1 < t.1) && (decide (s.2.2 < t.2.2) && decide (t.2.1 = s.2.1 + s.2.2 * (t.1 - s.1)))
def chain (xs : List Tri) : Bool := (xs.zip xs.tail).all fun p => goT p.1 p.2
def lastT (t : Tri) : List Tri → Tri
  | [] => t
  | b :: r => lastT b r
theorem lastT_mem : ∀ (r : List Tri) (t : Tri), lastT t r ∈ t :: r
  | [], t => List.mem_singleton.mpr rfl
  | b :: r, t => List.mem_cons_of_mem _ (lastT_mem r b)
theorem getLast_pT : ∀ (r : List Tri) (t : Tri) (h : (t :: r).map pT ≠ []), ((t :: r).map pT).getLast h = pT (lastT t r)
  | [], t, _ => rfl
  | b :: r, t, _ => by
    show (pT t :: (b :: r).map pT).getLast _ = _
    rw [List.getLast_cons (by simp), getLast_pT r b]
    rfl
def isP (xs : List Tri) : Bool := match xs with
  | [] => false
  | t :: r => (t :: r).all tOk && (decide (t.1 = 0) && (decide ((lastT t r).2.2 = 1) && (!decide ((lastT t r).2.1 < (lastT t r).1) && chain (t :: r))))
def lawP (xs : List Tri) : Bool := match xs with
  | [] => false
  | t :: r => decide (t.1 = 0) && (decide ((lastT t r).2.2 = 1) && (decide (0 ≤ t.2.2) && (!decide ((lastT t r).2.1 < (lastT t r).1) && chain (t :: r))))
/-! ### both say the same -/
theorem chain_cons (a b : Tri) (r : List Tri) : chain (a :: b :: r) = (goT a b && chain (b :: r)) := rfl
theorem chain_le : ∀ (r : List Tri) (t : Tri), chain (t :: r) = true → ∀ x ∈ t :: r, t.1 ≤ x.1 ∧ t.2.2 ≤ x.2.2
  | [], t, _, x, hx => by
    rw [List.mem_singleton.mp hx]
    exact ⟨Rat.le_refl, Rat.le_refl⟩
  | b :: r, t, h, x, hx => by
    rw [chain_cons, Bool.and_eq_true] at h
    obtain ⟨h1, h2⟩ := h
    unfold goT at h1
    rw [Bool.and_eq_true, Bool.and_eq_true, decide_eq_true_eq, decide_eq_true_eq] at h1
    rcases List.mem_cons.mp hx with rfl | hx
    · exact ⟨Rat.le_refl, Rat.le_refl⟩
    · have := chain_le r b h2 x hx
      exact ⟨Rat.le_trans (Rat.le_of_lt h1.1) this.1, Rat.le_trans (Rat.le_of_lt h1.2.1) this.2⟩
theorem chain_last : ∀ (r : List Tri) (t : Tri), chain (t :: r) = true → ∀ x ∈ t :: r, x.2.2 ≤ (lastT t r).2.2
  | [], t, _, x, hx => by
    rw [List.mem_singleton.mp hx]
    exact Rat.le_refl
  | b :: r, t, h, x, hx => by
    have h0 := chain_le (b :: r) t h
    rw [chain_cons, Bool.and_eq_true] at h
    have ih := chain_last r b h.2
    rcases List.mem_cons.mp hx with rfl | hx
    · exact (h0 _ (List.mem_cons_of_mem _ (lastT_mem r b))).2
    · exact ih x hx
theorem isP_lawP (xs : List Tri) : isP xs = lawP xs := by
  cases xs with
  | nil => rfl
  | cons t r =>
    unfold isP lawP
    simp only
    rw [Bool.eq_iff_iff]
    simp only [Bool.and_eq_true, decide_eq_true_eq, List.all_eq_true]
    constructor
    · rintro ⟨h1, h2, h3, h4, h5⟩
      have := h1 t (List.mem_cons_self ..)
      unfold tOk at this
      rw [Bool.and_eq_true, Bool.and_eq_true, decide_eq_true_eq, decide_eq_true_eq] at this
      exact ⟨h2, h3, this.2.1, h4, h5⟩
    · rintro ⟨h2, h3, h6, h4, h5⟩
      refine ⟨fun x hx => ?_, h2, h3, h4, h5⟩
      obtain ⟨a, b⟩ := chain_le r t h5 x hx
      have c := chain_last r t h5 x hx
      unfold tOk
      rw [Bool.and_eq_true, Bool.and_eq_true, decide_eq_true_eq, decide_eq_true_eq, decide_eq_true_eq]
      rw [h2] at a
      rw [h3] at c
      exact ⟨a, Rat.le_trans h6 b, c⟩
section
variable {T : Tab} {call : Nat → List PV → M PV}
/-! ### the program's -/
def isTri : PV → Bool
  | .tup [a, b, c] => isR a && (isR b && isR c)
  | _ => false
theorem isTri_pT (t : Tri) : isTri (pT t) = true := by simp [isTri, pT, isR_pQ]
theorem isTri_of {v : PV} (h : isTri v = true) : ∃ t, v = pT t := by
  unfold isTri at h
  split at h
  · rename_i a b c
    rw [Bool.and_eq_true, Bool.and_eq_true] at h
    obtain ⟨p, rfl⟩ := isR_of h.1
    obtain ⟨q, rfl⟩ := isR_of h.2.1
    obtain ⟨r, rfl⟩ := isR_of h.2.2
    exact ⟨(p, q, r), rfl⟩
  · cases h
theorem isTri_len {xs : List PV} (h : xs.length ≠ 3) : isTri (.tup xs) = false := by
  unfold isTri
  split
  · rename_i a b c e
    cases e
    exact absurd rfl h
  · rfl
structure Sp_is_triple (f : List PV → M PV) : Prop where
  yes : ∀ t, f [pT t] = pure (.bl (tOk t))
  no : ∀ v, Pd v → isTri v = false → f [v] = pure (.bl false)
theorem allR (T : Tab) (call : Nat → List PV → M PV) {f_is_ratio i : Nat} (h : Sp_is_ratio (call f_is_ratio)) {xs : List PV} {S : Env} (hi : i < S.length) (hx : ∀ x ∈ xs, Pd x) : cmpB T call (.nm i) .nil (.cal f_is_ratio (.cons (.var i) .nil)) xs S = pure (.lst (xs.map fun x => .bl (isR x))) := by
  have e := cm_map (T := T) (call := call) (t := .nm i) (elt := .cal f_is_ratio (.cons (.var i) .nil)) (e := fun x => x) (E := fun x => (S.set i .non).set i (.val x)) (g := fun x => .bl (isR x)) (xs := xs) (S := S) (fun x _ => by simp [IT.slots, wipeE]) fun x hm => by
    simp [hi, h x (hx x hm)]
  rw [List.map_id'] at e
  exact e
theorem num_nonneg (q : Rat) : decide (0 ≤ q.num) = decide (0 ≤ q) := decide_eq_decide.mpr Rat.num_nonneg
theorem num_le_den (q : Rat) : decide (q.num ≤ q.den) = decide (q ≤ 1) := by
  refine decide_eq_decide.mpr ?_
  rw [Rat.le_iff]
  simp
theorem ok_is_triple {f_is_ratio : Nat} (h : Sp_is_ratio (call f_is_ratio)) : Sp_is_triple (run T call (d_is_triple f_is_ratio)) := by
  constructor
  · intro t
    have e := allR T call h (xs := [pQ t.1, pQ t.2.1, pQ t.2.2]) (S := [.val (pT t), .non]) (i := 1) (by simp) (pd_tup.mp (pd_pT t))
    unfold run d_is_triple c_is_triple
    have e2 : primV .all [.lst [.bl true, .bl true, .bl true]] = some (.bl true) := rfl
    simp only [pT] at e ⊢
    simp only [isR_pQ, List.map_cons, List.map_nil] at e
    simp [isAny, isOne, e, e2, pQ_0, pQ_1, num_nonneg, num_le_den, tOk]
  · intro v hv hn
    unfold run d_is_triple c_is_triple
    cases v with
    | tup xs =>
      by_cases hl : xs.length = 3
      · obtain ⟨x, y, z, rfl⟩ := len3 hl
        have hp := pd_tup.mp hv
        have e := allR T call h (xs := [x, y, z]) (S := [.val (.tup [x, y, z]), .non]) (i := 1) (by simp) hp
        have e2 : primV .all [.lst [.bl (isR x), .bl (isR y), .bl (isR z)]] = some (.bl false) := by
          have q := primV_all [x, y, z] isR
          have : [x, y, z].all isR = isTri (.tup [x, y, z]) := by simp [isTri]
          rw [this, hn] at q
          exact q
        simp only [List.map_cons, List.map_nil] at e
        simp [isAny, isOne, e, e2]
      · have hl' : ¬ ((xs.length : Nat) : Int) = 3 := by omega
        simp [isAny, isOne, hl']
    | _ => first | (cases hv; done) | simp [isAny, isOne]
def Sp_goes_on (f : List PV → M PV) : Prop := ∀ s t, SzT 900 s → SzT 900 t → f [pT s, pT t] = pure (.bl (goT s t))
theorem sz39 {k : Nat} {q : Rat} (h : Sz k q) (hk : k ≤ 3900 := by decide) : Sz 3900 q := h.mono hk
theorem ok_goes_on {f_is_below f_less_of f_product_of f_sum_of : Nat} (h1 : Sp_lt (call f_is_below)) (h2 : Sp_sub (call f_less_of)) (h3 : Sp_mul (call f_product_of)) (h4 : Sp_add (call f_sum_of)) : Sp_goes_on (run T call (d_goes_on f_is_below f_less_of f_product_of f_sum_of)) := by
  intro s t hs ht
  have a1 := h1 s.1 t.1 (sz39 hs.1) (sz39 ht.1)
  have a2 := h1 s.2.2 t.2.2 (sz39 hs.2.2) (sz39 ht.2.2)
  have z1 := ht.1.sub hs.1
  have z2 := hs.2.2.mul z1
  have a3 := h2 t.1 s.1 (sz39 ht.1) (sz39 hs.1)
  have a4 := h3 s.2.2 (t.1 - s.1) (sz39 hs.2.2) (sz39 z1)
  have a5 := h4 s.2.1 (s.2.2 * (t.1 - s.1)) (sz39 hs.2.1) (sz39 z2)
  unfold run d_goes_on c_goes_on
  by_cases c1 : s.1 < t.1
  · by_cases c2 : s.2.2 < t.2.2
    · simp [pT, a1, a2, a3, a4, a5, eqV_pQ, c1, c2, goT]
    · simp [pT, a1, a2, c1, c2, goT]
  · simp [pT, a1, a2, c1, goT]
theorem zipV_map {α : Type} (f : α → PV) : ∀ xs ys : List α, zipV (xs.map f) (ys.map f) = (xs.zip ys).map fun p => .tup [f p.1, f p.2]
  | [], _ => rfl
  | _ :: _, [] => rfl
  | x :: xs, y :: ys => by
    show PV.tup [f x, f y] :: zipV (xs.map f) (ys.map f) = _
    rw [zipV_map f xs ys]
    rfl
theorem cut_one {α : Type} (xs : List α) : cut xs (some 1) none = xs.tail := by
  have e2 : ∀ n d, HT.sIx n d (some 1) = min 1 n := fun n d => HT.sIx_nat n d 1
  unfold cut
  rw [HT.sIx_none, e2]
  cases xs with
  | nil => rfl
  | cons c l => simp
def isTup : PV → Bool
  | .tup _ => true
  | _ => false
structure Sp_is_profile_of (f : List PV → M PV) : Prop where
  yes : ∀ xs, (∀ t ∈ xs, SzT 900 t) → f [e3 xs] = pure (.bl (isP xs))
  odd : ∀ xs : List PV, (∀ x ∈ xs, Pd x) → xs.all isTri = false → f [.tup xs] = pure (.bl false)
  no : ∀ v, Pd v → isTup v = false → f [v] = pure (.bl false)
theorem allT (T : Tab) (call : Nat → List PV → M PV) {f i : Nat} (h : Sp_is_triple (call f)) {xs : List Tri} {S : Env} (hi : i < S.length) : cmpB T call (.nm i) .nil (.cal f (.cons (.var i) .nil)) (xs.map pT) S = pure (.lst (xs.map fun x => .bl (tOk x))) :=
  cm_map (E := fun x => (S.set i .non).set i (.val (pT x))) (fun x _ => by simp [IT.slots, wipeE]) fun x hm => by simp [hi, h.yes x]
theorem allT' (T : Tab) (call : Nat → List PV → M PV) {f i : Nat} (h : Sp_is_triple (call f)) {xs : List PV} {S : Env} (hi : i < S.length) (hx : ∀ x ∈ xs, Pd x) : ∃ bs : List Bool, cmpB T call (.nm i) .nil (.cal f (.cons (.var i) .nil)) xs S = pure (.lst (bs.map .bl)) ∧ (xs.all isTri = false → bs.all id = false) := by
  have e := cm_map (T := T) (call := call) (t := .nm i) (elt := .cal f (.cons (.var i) .nil)) (e := fun x => x) (E := fun x => (S.set i .non).set i (.val x)) (g := fun x => .bl (isTri x && (match call f [x] {large := [], rest := 0, cells := [], turn := 0} with | some (.ok (.bl b), _) => b | _ => false))) (xs := xs) (S := S) (fun x _ => by simp [IT.slots, wipeE]) fun x hm => by
    cases q : isTri x with
    | false => simp [hi, h.no x (hx x hm) q]
    | true =>
      obtain ⟨t, rfl⟩ := isTri_of q
      have e := h.yes t
      simp [hi, e]
      rfl
  rw [List.map_id'] at e
  refine ⟨xs.map fun x => isTri x && _, by rw [e, List.map_map]; rfl, fun ha => ?_⟩
  rw [List.all_map]
  obtain ⟨x, hm, hf⟩ := List.all_eq_false.mp ha
  refine List.all_eq_false.mpr ⟨x, hm, ?_⟩
  have : isTri x = false := by simpa using hf
  simp [this]
theorem ok_is_profile_of {f_goes_on f_is_below f_is_triple k_ALL k_NONE : Nat} (h1 : Sp_goes_on (call f_goes_on)) (h2 : Sp_lt (call f_is_below)) (h3 : Sp_is_triple (call f_is_triple)) (c1 : HasC T k_ALL (.tup [.int 1, .int 1])) (c2 : HasC T k_NONE (.tup [.int 0, .int 1])) : Sp_is_profile_of (run T call (d_is_profile_of f_goes_on f_is_below f_is_triple k_ALL k_NONE)) := by
  obtain ⟨_, c1⟩ := c1
  obtain ⟨_, c2⟩ := c2
  constructor
  · intro xs hs
    unfold run d_is_profile_of c_is_profile_of
    cases xs with
    | nil => simp [isAny, isOne, e3, isP]
    | cons t r =>
      have l1 : ¬ ((((t :: r).map pT).length : Nat) : Int) = 0 := by simp; omega
      have a1 := allT T call h3 (xs := t :: r) (S := [.val (e3 (t :: r)), .non, .non, .non]) (i := 3) (by simp)
      have a2 := primV_all (t :: r) tOk
      have a3 : ixV (e3 (t :: r)) (.int 0) = some (pT t) := ixV_0 _ _
      have a4 : ixV (e3 (t :: r)) (.int (-1)) = some (pT (lastT t r)) := by
        unfold e3
        rw [ixV_last_tup (by simp), getLast_pT]
      have a5 : eqV (pQ t.1) (.tup [.int 0, .int 1]) = some (decide (t.1 = 0)) := eqV_pQ t.1 0
      have sl := hs _ (lastT_mem r t)
      have e0 : isP (t :: r) = ((t :: r).all tOk && (decide (t.1 = 0) && (decide ((lastT t r).2.2 = 1) && (!decide ((lastT t r).2.1 < (lastT t r).1) && chain (t :: r))))) := rfl
      generalize lastT t r = u at *
      have a6 : eqV (pQ u.2.2) (.tup [.int 1, .int 1]) = some (decide (u.2.2 = 1)) := eqV_pQ u.2.2 1
      have a7 := h2 _ _ (sz39 sl.2.1) (sz39 sl.1)
      have a8 : cmpB T call (.tp [.nm 1, .nm 2]) .nil (.cal f_goes_on (.cons (.var 1) (.cons (.var 2) .nil))) (zipV ((t :: r).map pT) (((t :: r).map pT).tail)) [.val (e3 (t :: r)), .non, .non, .non] = pure (.lst (((t :: r).zip (t :: r).tail).map fun p => .bl (goT p.1 p.2))) := by
        rw [← List.map_tail, zipV_map]
        refine cm_map (E := fun p => [.val (e3 (t :: r)), .val (pT p.1), .val (pT p.2), .non]) (fun p _ => by simp [IT.slots, slotsL, wipeE, bindT, bindTs]) fun p hp => ?_
        have m := List.of_mem_zip (show (p.1, p.2) ∈ _ from hp)
        simp [h1 p.1 p.2 (hs _ m.1) (hs _ (List.mem_of_mem_tail m.2))]
      have a9 := primV_all ((t :: r).zip (t :: r).tail) (fun p => goT p.1 p.2)
      have b1 : isOne T (e3 (t :: r)) .tuple = some true := rfl
      have b2 : primV .len [e3 (t :: r)] = some (.int (((t :: r).map pT).length : Nat)) := rfl
      have b3 : seqV (e3 (t :: r)) = some ((t :: r).map pT) := rfl
      have b4 : slcV (e3 (t :: r)) (some 1) none = some (.tup ((t :: r).map pT).tail) := by
        show some (PV.tup (cut _ _ _)) = _
        rw [cut_one]
      have b5 : evI T call (.zip (.var 0) (.slc (.var 0) (.cst (.int 1)) .nil)) [.val (e3 (t :: r)), .non, .non, .non] = pure (zipV ((t :: r).map pT) (((t :: r).map pT).tail)) := by
        simp [b4, IE.isNil]
        rfl
      have ch : chain (t :: r) = ((t :: r).zip (t :: r).tail).all fun p => goT p.1 p.2 := rfl
      generalize (t :: r).zip (t :: r).tail = zs at *
      generalize zipV ((t :: r).map pT) (((t :: r).map pT).tail) = zv at *
      generalize (t :: r).map pT = W at *
      generalize W.length = n at *
      replace l1 : ¬ n = 0 := by omega
      generalize (t :: r).map (fun x => PV.bl (tOk x)) = U at *
      generalize zs.map (fun x => PV.bl (goT x.1 x.2)) = U2 at *
      generalize (t :: r).all tOk = ok1 at *
      generalize e3 (t :: r) = v at *
      rw [e0, ch]
      have p0 : ∀ t : Tri, ixV (pT t) (.int 0) = some (pQ t.1) := fun t => rfl
      have p1 : ∀ t : Tri, ixV (pT t) (.int 1) = some (pQ t.2.1) := fun t => rfl
      have p2 : ∀ t : Tri, ixV (pT t) (.int 2) = some (pQ t.2.2) := fun t => rfl
      cases ok1 with
      | false => simp [isAny, b1, b2, b3, l1, a1, a2]
      | true =>
        clear e0
        generalize decide (t.1 = 0) = B1 at *
        generalize decide (u.2.2 = 1) = B2 at *
        generalize decide (u.2.1 < u.1) = B3 at *
        cases B1 with
        | false => simp [isAny, b1, b2, b3, l1, a1, a2, a3, a4, a5, p0, p1, p2, c1, c2]
        | true => cases B2 with
          | false => simp [isAny, b1, b2, b3, l1, a1, a2, a3, a4, a5, a6, p0, p1, p2, c1, c2]
          | true => cases B3 with
            | true => simp [isAny, b1, b2, b3, l1, a1, a2, a3, a4, a5, a6, a7, p0, p1, p2, c1, c2]
            | false => simp [isAny, b1, b2, b3, l1, a1, a2, a3, a4, a5, a6, a7, a8, a9, b5, p0, p1, p2, c1, c2, -qI_zip]
  · intro xs hx ha
    unfold run d_is_profile_of c_is_profile_of
    obtain ⟨bs, e1, e2⟩ := allT' T call h3 (xs := xs) (S := [.val (.tup xs), .non, .non, .non]) (i := 3) (by simp) hx
    have e3 : primV .all [.lst (bs.map .bl)] = some (.bl false) := by
      show (allBl (bs.map .bl)).map _ = _
      rw [allBl_map, Option.map_some, e2 ha]
    simp [isAny, isOne, e1, e3]
  · intro v hv hn
    unfold run d_is_profile_of c_is_profile_of
    cases v <;> first | (cases hv; done) | (cases hn; done) | simp [isAny, isOne]
end
end BA.Li
/-! Pl6 -/
set_option Elab.async false
set_option linter.all false
set_option maxRecDepth 100000
set_option maxHeartbeats 1000000
/-! Pl6: the law's look at profiles; lines, short numbers. -/
namespace BA.Li
open PySem L2 BA
section
variable {T : Tab} {call : Nat → List PV → M PV}
/-- the law's look at a tuple of so many ratios -/
structure Sp_are_ratios (f : List PV → M PV) : Prop where
  yes : ∀ t, f [pT t, .int 3] = pure (.bl true)
  no : ∀ v, Pd v → isTri v = false → f [v, .int 3] = pure (.bl false)
theorem ones_nil {α : Type} (l : List α) : eqV (.lst (l.map fun _ => .int 1)) (.lst []) = some l.isEmpty := by
  rw [eqV_lst_nil (fun x hx => by obtain ⟨c, _, rfl⟩ := List.mem_map.mp hx; rfl)]
  cases l <;> rfl
theorem filter_empty {α : Type} (l : List α) (p : α → Bool) : (l.filter fun x => !p x).isEmpty = l.all p := by
  rw [Bool.eq_iff_iff, List.isEmpty_iff, List.filter_eq_nil_iff, List.all_eq_true]
  simp
theorem notR (T : Tab) (call : Nat → List PV → M PV) {f i : Nat} (h : Sp_is_ratio (call f)) {xs : List PV} {S : Env} (hi : i < S.length) (hx : ∀ x ∈ xs, Pd x) : cmpB T call (.nm i) (.not (.cal f (.cons (.var i) .nil))) (.cst (.int 1)) xs S = pure (.lst ((xs.filter fun x => !isR x).map fun _ => .int 1)) := by
  have e := cm_filter (T := T) (call := call) (t := .nm i) (cond := .not (.cal f (.cons (.var i) .nil))) (elt := .cst (.int 1)) (e := fun x => x) (E := fun x => (S.set i .non).set i (.val x)) (g := fun _ => .int 1) (p := fun x => !isR x) (xs := xs) (S := S) (fun x _ => by simp [IT.slots, wipeE]) rfl (fun x hm => by simp [hi, h x (hx x hm)]) (fun x _ _ => rfl)
  rw [List.map_id'] at e
  exact e
theorem ok__law_are_ratios {f__law_is_ratio : Nat} (h : Sp_is_ratio (call f__law_is_ratio)) : Sp_are_ratios (run T call (d__law_are_ratios f__law_is_ratio)) := by
  constructor
  · intro t
    have e := notR T call h (xs := [pQ t.1, pQ t.2.1, pQ t.2.2]) (S := [.val (pT t), .val (.int 3), .non]) (i := 2) (by simp) (pd_tup.mp (pd_pT t))
    unfold run d__law_are_ratios c__law_are_ratios
    simp only [pT] at e ⊢
    simp [isR_pQ] at e
    have e2 := eqV_lst_nil (xs := []) (by simp)
    simp [isAny, isOne, e, e2]
  · intro v hv hn
    unfold run d__law_are_ratios c__law_are_ratios
    cases v with
    | tup xs =>
      by_cases hl : xs.length = 3
      · obtain ⟨x, y, z, rfl⟩ := len3 hl
        have e := notR T call h (xs := [x, y, z]) (S := [.val (.tup [x, y, z]), .val (.int 3), .non]) (i := 2) (by simp) (pd_tup.mp hv)
        have e2 := ones_nil ([x, y, z].filter fun x => !isR x)
        rw [filter_empty] at e2
        have : [x, y, z].all isR = isTri (.tup [x, y, z]) := by simp [isTri]
        rw [this, hn] at e2
        generalize ([x, y, z].filter fun x => !isR x).map (fun _ => PV.int 1) = W at *
        simp [isAny, isOne, e, e2]
      · have hl' : ¬ ((xs.length : Nat) : Int) = 3 := by omega
        simp [isAny, isOne, hl']
    | _ => first | (cases hv; done) | simp [isAny, isOne]
structure Sp_law_profile (f : List PV → M PV) : Prop where
  yes : ∀ xs, (∀ t ∈ xs, SzT 900 t) → f [e3 xs] = pure (.bl (lawP xs))
  odd : ∀ xs : List PV, (∀ x ∈ xs, Pd x) → xs.all isTri = false → f [.tup xs] = pure (.bl false)
theorem notT (T : Tab) (call : Nat → List PV → M PV) {f i : Nat} (h : Sp_are_ratios (call f)) {xs : List PV} {S : Env} (hi : i < S.length) (hx : ∀ x ∈ xs, Pd x) : cmpB T call (.nm i) (.not (.cal f (.cons (.var i) (.cons (.cst (.int 3)) .nil)))) (.cst (.int 1)) xs S = pure (.lst ((xs.filter fun x => !isTri x).map fun _ => .int 1)) := by
  have e := cm_filter (T := T) (call := call) (t := .nm i) (cond := .not (.cal f (.cons (.var i) (.cons (.cst (.int 3)) .nil)))) (elt := .cst (.int 1)) (e := fun x => x) (E := fun x => (S.set i .non).set i (.val x)) (g := fun _ => .int 1) (p := fun x => !isTri x) (xs := xs) (S := S) (fun x _ => by simp [IT.slots, wipeE]) rfl (fun x hm => by
    cases q : isTri x with
    | false => simp [hi, h.no x (hx x hm) q]
    | true =>
      obtain ⟨t, rfl⟩ := isTri_of q
      simp [hi, h.yes t]) (fun x _ _ => rfl)
  rw [List.map_id'] at e
  exact e
theorem ok__law_is_profile {f__law_above f__law_are_ratios f__law_minus f__law_plus f__law_times : Nat} (h1 : Sp_gt (call f__law_above)) (h2 : Sp_are_ratios (call f__law_are_ratios)) (h3 : Sp_sub (call f__law_minus)) (h4 : Sp_add (call f__law_plus)) (h5 : Sp_mul (call f__law_times)) : Sp_law_profile (run T call (d__law_is_profile f__law_above f__law_are_ratios f__law_minus f__law_plus f__law_times)) := by
  constructor
  · intro xs hs
    unfold run d__law_is_profile c__law_is_profile
    have a1 := notT T call h2 (xs := xs.map pT) (S := [.val (e3 xs), .non, .non, .non]) (i := 3) (by simp) (pd_tup.mp (pd_e3 xs))
    have a2 := ones_nil ((xs.map pT).filter fun x => !isTri x)
    have tt : (xs.map pT).all isTri = true := List.all_eq_true.mpr fun x hx => by
      obtain ⟨t, _, rfl⟩ := List.mem_map.mp hx
      exact isTri_pT t
    rw [filter_empty, tt] at a2
    generalize ((xs.map pT).filter fun x => !isTri x).map (fun _ => PV.int 1) = W at *
    have b1 : isOne T (e3 xs) .tuple = some true := rfl
    have b3 : seqV (e3 xs) = some (xs.map pT) := rfl
    have b2 : eqV (e3 xs) (.tup []) = some (xs.map pT).isEmpty := eqV_tup_nil (pd_tup.mp (pd_e3 xs))
    cases xs with
    | nil =>
      have b2' : eqV (e3 []) (.tup []) = some true := b2
      simp [isAny, b1, b2', b3, a1, a2, lawP]
    | cons t r =>
      have b2' : eqV (e3 (t :: r)) (.tup []) = some false := b2
      have a3 : ixV (e3 (t :: r)) (.int 0) = some (pT t) := ixV_0 _ _
      have a4 : ixV (e3 (t :: r)) (.int (-1)) = some (pT (lastT t r)) := by
        unfold e3
        rw [ixV_last_tup (by simp), getLast_pT]
      have a5 : eqV (pQ t.1) (.tup [.int 0, .int 1]) = some (decide (t.1 = 0)) := eqV_pQ t.1 0
      have sl := hs _ (lastT_mem r t)
      have e0 : lawP (t :: r) = (decide (t.1 = 0) && (decide ((lastT t r).2.2 = 1) && (decide (0 ≤ t.2.2) && (!decide ((lastT t r).2.1 < (lastT t r).1) && chain (t :: r))))) := rfl
      generalize lastT t r = u at *
      have a6 : eqV (pQ u.2.2) (.tup [.int 1, .int 1]) = some (decide (u.2.2 = 1)) := eqV_pQ u.2.2 1
      have a7 := h1 _ _ (sz39 sl.1) (sz39 sl.2.1)
      have b4 : slcV (e3 (t :: r)) (some 1) none = some (.tup ((t :: r).map pT).tail) := by
        show some (PV.tup (cut _ _ _)) = _
        rw [cut_one]
      have b5 : evI T call (.zip (.var 0) (.slc (.var 0) (.cst (.int 1)) .nil)) [.val (e3 (t :: r)), .non, .non, .non] = pure (zipV ((t :: r).map pT) (((t :: r).map pT).tail)) := by
        simp [b4, IE.isNil]
        rfl
      have b6 : zipV ((t :: r).map pT) (((t :: r).map pT).tail) = ((t :: r).zip (t :: r).tail).map fun p => PV.tup [pT p.1, pT p.2] := by
        rw [← List.map_tail, zipV_map]
      have ch : chain (t :: r) = ((t :: r).zip (t :: r).tail).all fun p => goT p.1 p.2 := rfl
      have zs_ok : ∀ p ∈ (t :: r).zip (t :: r).tail, SzT 900 p.1 ∧ SzT 900 p.2 := fun p hp => by
        have m := List.of_mem_zip (show (p.1, p.2) ∈ _ from hp)
        exact ⟨hs _ m.1, hs _ (List.mem_of_mem_tail m.2)⟩
      have c0 : decide (t.2.2.num < 0) = !decide (0 ≤ t.2.2) := by
        rw [← num_nonneg, ← decide_not]
        exact decide_eq_decide.mpr (by omega)
      have loop : ∀ (zs : List (Tri × Tri)) (v : PV) (s1 s2 s3 : SV), (∀ p ∈ zs, SzT 900 p.1 ∧ SzT 900 p.2) → ∃ m : M Fl, forB T call (.tp [(.nm 1), (.nm 2)]) (.cons (.iff (.or (.not (.cal f__law_above (.cons (.ix (.var 2) (.cst (.int 0))) (.cons (.ix (.var 1) (.cst (.int 0))) .nil)))) (.not (.cal f__law_above (.cons (.ix (.var 2) (.cst (.int 2))) (.cons (.ix (.var 1) (.cst (.int 2))) .nil))))) (.cons (.ret (.cst (.bl false))) .nil) .nil) (.cons (.iff (.cmp .ne (.ix (.var 2) (.cst (.int 1))) (.cal f__law_plus (.cons (.ix (.var 1) (.cst (.int 1))) (.cons (.cal f__law_times (.cons (.ix (.var 1) (.cst (.int 2))) (.cons (.cal f__law_minus (.cons (.ix (.var 2) (.cst (.int 0))) (.cons (.ix (.var 1) (.cst (.int 0))) .nil))) .nil))) .nil)))) (.cons (.ret (.cst (.bl false))) .nil) .nil) .nil)) (zs.map fun p => .tup [pT p.1, pT p.2]) [.val v, s1, s2, s3] = m ∧ ((zs.all (fun p => goT p.1 p.2) = true ∧ ∃ r1 r2, m = pure (.nx [.val v, r1, r2, s3])) ∨ (zs.all (fun p => goT p.1 p.2) = false ∧ m = pure (.rt (.bl false)))) := by
        intro zs v
        induction zs with
        | nil => intro s1 s2 s3 _; exact ⟨_, rfl, .inl ⟨rfl, s1, s2, rfl⟩⟩
        | cons p zs ih =>
          intro s1 s2 s3 hz
          obtain ⟨p1, p2⟩ := hz p (List.mem_cons_self ..)
          obtain ⟨m, hm, hr⟩ := ih (.val (pT p.1)) (.val (pT p.2)) s3 fun q hq => hz q (List.mem_cons_of_mem _ hq)
          obtain ⟨s, t⟩ := p
          have z1 := p2.1.sub p1.1
          have z2 := p1.2.2.mul z1
          have k1 := h1 t.1 s.1 (sz39 p2.1) (sz39 p1.1)
          have k2 := h1 t.2.2 s.2.2 (sz39 p2.2.2) (sz39 p1.2.2)
          have k3 := h3 t.1 s.1 (sz39 p2.1) (sz39 p1.1)
          have k4 := h5 s.2.2 (t.1 - s.1) (sz39 p1.2.2) (sz39 z1)
          have k5 := h4 s.2.1 (s.2.2 * (t.1 - s.1)) (sz39 p1.2.1) (sz39 z2)
          have k6 := eqV_pQ t.2.1 (s.2.1 + s.2.2 * (t.1 - s.1))
          have g0 : goT s t = (decide (s.1 < t.1) && (decide (s.2.2 < t.2.2) && decide (t.2.1 = s.2.1 + s.2.2 * (t.1 - s.1)))) := rfl
          rw [List.map_cons, List.all_cons]
          simp only
          rw [g0]
          have q0 : ∀ t : Tri, ixV (pT t) (.int 0) = some (pQ t.1) := fun t => rfl
          have q1 : ∀ t : Tri, ixV (pT t) (.int 1) = some (pQ t.2.1) := fun t => rfl
          have q2 : ∀ t : Tri, ixV (pT t) (.int 2) = some (pQ t.2.2) := fun t => rfl
          generalize decide (s.1 < t.1) = B1 at *
          generalize decide (s.2.2 < t.2.2) = B2 at *
          generalize decide (t.2.1 = s.2.1 + s.2.2 * (t.1 - s.1)) = B3 at *
          cases B1 with
          | false => exact ⟨_, rfl, .inr ⟨rfl, by rw [fs_rt (S1 := [.val v, .val (pT s), .val (pT t), s3]) (v := .bl false) (by simp [bindT, bindTs]) (by simp [q0, q1, q2, k1])]⟩⟩
          | true => cases B2 with
            | false => exact ⟨_, rfl, .inr ⟨rfl, by rw [fs_rt (S1 := [.val v, .val (pT s), .val (pT t), s3]) (v := .bl false) (by simp [bindT, bindTs]) (by simp [q0, q1, q2, k1, k2])]⟩⟩
            | true => cases B3 with
              | false => exact ⟨_, rfl, .inr ⟨rfl, by rw [fs_rt (S1 := [.val v, .val (pT s), .val (pT t), s3]) (v := .bl false) (by simp [bindT, bindTs]) (by simp [q0, q1, q2, k1, k2, k3, k4, k5, k6])]⟩⟩
              | true => exact ⟨m, by rw [fs_nx (S1 := [.val v, .val (pT s), .val (pT t), s3]) (S' := [.val v, .val (pT s), .val (pT t), s3]) (by simp [bindT, bindTs]) (by simp [q0, q1, q2, k1, k2, k3, k4, k5, k6])]; exact hm, hr⟩
      obtain ⟨m, hm, hr⟩ := loop ((t :: r).zip (t :: r).tail) (e3 (t :: r)) .non .non .non zs_ok
      rw [b6] at b5
      rw [e0, ch]
      clear loop e0 ch zs_ok b6
      generalize (t :: r).zip (t :: r).tail = zs at *
      generalize (zs.map fun p => PV.tup [pT p.1, pT p.2]) = zv at *
      generalize (t :: r).map pT = W2 at *
      generalize e3 (t :: r) = v at *
      have p0 : ∀ t : Tri, ixV (pT t) (.int 0) = some (pQ t.1) := fun t => rfl
      have p1 : ∀ t : Tri, ixV (pT t) (.int 1) = some (pQ t.2.1) := fun t => rfl
      have p2 : ∀ t : Tri, ixV (pT t) (.int 2) = some (pQ t.2.2) := fun t => rfl
      generalize decide (t.1 = 0) = B1 at *
      generalize decide (u.2.2 = 1) = B2 at *
      generalize decide (u.2.1 < u.1) = B3 at *
      generalize decide (0 ≤ t.2.2) = B4 at *
      generalize zs.all (fun p => goT p.1 p.2) = B5 at *
      cases B1 with
      | false => simp [isAny, b1, b2', b3, a1, a2, a3, a4, a5, p0, p1, p2]
      | true => cases B2 with
        | false => simp [isAny, b1, b2', b3, a1, a2, a3, a4, a5, a6, p0, p1, p2]
        | true => cases B4 with
          | false => simp [isAny, b1, b2', b3, a1, a2, a3, a4, a5, a6, c0, pQ_0, p0, p1, p2]
          | true => cases B3 with
            | true => simp [isAny, b1, b2', b3, a1, a2, a3, a4, a5, a6, a7, c0, pQ_0, p0, p1, p2]
            | false =>
              rcases hr with ⟨rfl, r1, r2, e⟩ | ⟨rfl, e⟩
              · rw [e] at hm
                simp [isAny, b1, b2', b3, a1, a2, a3, a4, a5, a6, a7, c0, pQ_0, b5, hm, p0, p1, p2, -qI_zip]
              · rw [e] at hm
                simp [isAny, b1, b2', b3, a1, a2, a3, a4, a5, a6, a7, c0, pQ_0, b5, hm, p0, p1, p2, -qI_zip]
  · intro xs hx ha
    unfold run d__law_is_profile c__law_is_profile
    have a1 := notT T call h2 (xs := xs) (S := [.val (.tup xs), .non, .non, .non]) (i := 3) (by simp) hx
    have a2 := ones_nil (xs.filter fun x => !isTri x)
    rw [filter_empty, ha] at a2
    have b2 := eqV_tup_nil hx
    generalize (xs.filter fun x => !isTri x).map (fun _ => PV.int 1) = W at *
    simp [isAny, isOne, a1, a2, b2]
end
end BA.Li
/-! Pl7 -/
set_option Elab.async false
set_option linter.all false
set_option maxRecDepth 100000
set_option maxHeartbeats 1000000
/-! Pl7: kinds, sayings; lines, short numbers. -/
namespace BA.Li
open PySem L2 BA
/-! ### kinds -/
mutual
def wt : PV → Nat
  | .tup xs => 1 + wts xs
  | .lst xs => 1 + wts xs
  | _ => 1
def wts : List PV → Nat
  | [] => 0
  | x :: xs => wt x + wts xs
end
theorem wts_app : ∀ xs ys : List PV, wts (xs ++ ys) = wts xs + wts ys
  | [], ys => by simp [wts]
  | x :: xs, ys => by rw [List.cons_append, wts, wts, wts_app xs ys]; omega
theorem wt_pos (x : PV) : 1 ≤ wt x := by cases x <;> simp [wt]
theorem len_wts : ∀ xs : List PV, xs.length ≤ wts xs
  | [] => by simp [wts]
  | x :: xs => by
    have := len_wts xs
    have := wt_pos x
    rw [wts, List.length_cons]
    omega
section
variable {T : Tab} {call : Nat → List PV → M PV}
theorem in_tuple : inV (.str "tuple") (.lst [.str "tuple", .str "list"]) = some true := by decide +kernel
theorem in_list : inV (.str "list") (.lst [.str "tuple", .str "list"]) = some true := by decide +kernel
theorem in_bool : inV (.str "bool") (.lst [.str "tuple", .str "list"]) = some false := by decide +kernel
theorem in_other : inV (.str "other") (.lst [.str "tuple", .str "list"]) = some false := by decide +kernel
theorem eq_tuple : eqV (.str "tuple") (.str "dict") = some false := by decide +kernel
theorem eq_list : eqV (.str "list") (.str "dict") = some false := by decide +kernel
theorem eq_bool : eqV (.str "bool") (.str "dict") = some false := by decide +kernel
theorem eq_other : eqV (.str "other") (.str "dict") = some false := by decide +kernel
theorem kinds_loop (v0 s5 : SV) : ∀ (n : Nat) (line : List PV) (fs : List Str) (s3 s4 : SV), wts line = n → (∀ x ∈ line, Pd x) → fs.length + n ≤ 2 ^ 20 → ∃ ks : List Str, ∃ r3 r4, fs.length + n ≤ 2 ^ 20 ∧ evS T call (.whl (.cmp .ne (.bvar 2) (.lst .nil)) (.cons (.pop 3 2) (.cons (.asg (.nm 4) (.ite (.isi (.var 3) [.tuple]) (.cst (.str "tuple")) (.ite (.isi (.var 3) [.list]) (.cst (.str "list")) (.ite (.isi (.var 3) [.dict]) (.cst (.str "dict")) (.ite (.isi (.var 3) [.bool]) (.cst (.str "bool")) (.cst (.str "other"))))))) (.cons (.app 1 (.var 4)) (.cons (.iff (.cmp .inn (.var 4) (.lst (.cons (.cst (.str "tuple")) (.cons (.cst (.str "list")) .nil)))) (.cons (.own 2 (.bin .add (.bvar 2) (.prm .list (.cons (.var 3) .nil)))) .nil) .nil) (.cons (.iff (.cmp .eq (.var 4) (.cst (.str "dict"))) (.cons (.own 2 .nev) .nil) .nil) .nil)))))) [v0, .own (.lst (fs.map .str)), .own (.lst line), s3, s4, s5] = pure (.nx [v0, .own (.lst (ks.map .str)), .own (.lst []), r3, r4, s5]) := by
  intro n
  induction n using Nat.strongRecOn with
  | ind n ih =>
    intro line fs s3 s4 hn hp hl
    rcases List.eq_nil_or_concat line with rfl | ⟨l, x, rfl⟩
    · refine ⟨fs, s3, s4, hl, ?_⟩
      have e := eqV_lst_nil (xs := []) (by simp)
      rw [ws_end (by simp [e])]
    · rw [List.concat_eq_append] at hn hp ⊢
      have hx : Pd x := hp x (by simp)
      have e := eqV_lst_nil hp
      have e' : eqV (.lst (l ++ [x])) (.lst []) = some false := by rw [e]; cases l <;> rfl
      have ht : evE T call (.cmp .ne (.bvar 2) (.lst .nil)) [v0, .own (.lst (fs.map .str)), .own (.lst (l ++ [x])), s3, s4, s5] = pure (.bl true) := by simp [e']
      rw [wts_app] at hn
      have hw : wts [x] = wt x := by simp [wts]
      rw [hw] at hn
      have hf : ((fs.map PV.str).length : Nat) < sizeLine := by
        rw [List.length_map]
        have : (2 ^ 20 : Nat) < sizeLine := by decide
        have := wt_pos x
        omega
      have hpop : ∀ (A : SV), evS T call (.pop 3 2) [v0, A, .own (.lst (l ++ [x])), s3, s4, s5] = pure (.nx [v0, A, .own (.lst l), .val x, s4, s5]) := fun A => by
        rw [qS_pop]
        simp
      have leaf : ∀ (k : Str), inV (.str k) (.lst [.str "tuple", .str "list"]) = some false → eqV (.str k) (.str "dict") = some false → evE T call (.ite (.isi (.var 3) [.tuple]) (.cst (.str "tuple")) (.ite (.isi (.var 3) [.list]) (.cst (.str "list")) (.ite (.isi (.var 3) [.dict]) (.cst (.str "dict")) (.ite (.isi (.var 3) [.bool]) (.cst (.str "bool")) (.cst (.str "other")))))) [v0, .own (.lst (fs.map .str)), .own (.lst l), .val x, s4, s5] = pure (.str k) → wt x = 1 → ∃ ks : List Str, ∃ r3 r4, fs.length + n ≤ 2 ^ 20 ∧ evS T call (.whl (.cmp .ne (.bvar 2) (.lst .nil)) (.cons (.pop 3 2) (.cons (.asg (.nm 4) (.ite (.isi (.var 3) [.tuple]) (.cst (.str "tuple")) (.ite (.isi (.var 3) [.list]) (.cst (.str "list")) (.ite (.isi (.var 3) [.dict]) (.cst (.str "dict")) (.ite (.isi (.var 3) [.bool]) (.cst (.str "bool")) (.cst (.str "other"))))))) (.cons (.app 1 (.var 4)) (.cons (.iff (.cmp .inn (.var 4) (.lst (.cons (.cst (.str "tuple")) (.cons (.cst (.str "list")) .nil)))) (.cons (.own 2 (.bin .add (.bvar 2) (.prm .list (.cons (.var 3) .nil)))) .nil) .nil) (.cons (.iff (.cmp .eq (.var 4) (.cst (.str "dict"))) (.cons (.own 2 .nev) .nil) .nil) .nil)))))) [v0, .own (.lst (fs.map .str)), .own (.lst (l ++ [x])), s3, s4, s5] = pure (.nx [v0, .own (.lst (ks.map .str)), .own (.lst []), r3, r4, s5]) := fun k h1 h2 h3 h4 => by
        obtain ⟨ks, r3, r4, _, q⟩ := ih (wts l) (by omega) l (fs ++ [k]) (.val x) (.val (.str k)) rfl (fun y hy => hp y (List.mem_append_left _ hy)) (by rw [List.length_append, List.length_singleton]; omega)
        refine ⟨ks, r3, r4, hl, ?_⟩
        rw [List.map_append, List.map_cons, List.map_nil] at q
        rw [ws_nx (S' := [v0, .own (.lst (fs.map .str ++ [.str k])), .own (.lst l), .val x, .val (.str k), s5]) ht]
        · exact q
        · rw [List.length_map] at hf
          simp [hpop, h3, h1, h2, hf, -qE_ite]
      have node : ∀ (k : Str) (ys : List PV), inV (.str k) (.lst [.str "tuple", .str "list"]) = some true → eqV (.str k) (.str "dict") = some false → evE T call (.ite (.isi (.var 3) [.tuple]) (.cst (.str "tuple")) (.ite (.isi (.var 3) [.list]) (.cst (.str "list")) (.ite (.isi (.var 3) [.dict]) (.cst (.str "dict")) (.ite (.isi (.var 3) [.bool]) (.cst (.str "bool")) (.cst (.str "other")))))) [v0, .own (.lst (fs.map .str)), .own (.lst l), .val x, s4, s5] = pure (.str k) → primV .list [x] = some (.lst ys) → wt x = 1 + wts ys → (∀ y ∈ ys, Pd y) → ∃ ks : List Str, ∃ r3 r4, fs.length + n ≤ 2 ^ 20 ∧ evS T call (.whl (.cmp .ne (.bvar 2) (.lst .nil)) (.cons (.pop 3 2) (.cons (.asg (.nm 4) (.ite (.isi (.var 3) [.tuple]) (.cst (.str "tuple")) (.ite (.isi (.var 3) [.list]) (.cst (.str "list")) (.ite (.isi (.var 3) [.dict]) (.cst (.str "dict")) (.ite (.isi (.var 3) [.bool]) (.cst (.str "bool")) (.cst (.str "other"))))))) (.cons (.app 1 (.var 4)) (.cons (.iff (.cmp .inn (.var 4) (.lst (.cons (.cst (.str "tuple")) (.cons (.cst (.str "list")) .nil)))) (.cons (.own 2 (.bin .add (.bvar 2) (.prm .list (.cons (.var 3) .nil)))) .nil) .nil) (.cons (.iff (.cmp .eq (.var 4) (.cst (.str "dict"))) (.cons (.own 2 .nev) .nil) .nil) .nil)))))) [v0, .own (.lst (fs.map .str)), .own (.lst (l ++ [x])), s3, s4, s5] = pure (.nx [v0, .own (.lst (ks.map .str)), .own (.lst []), r3, r4, s5]) := fun k ys h1 h2 h3 h4 h5 h6 => by
        obtain ⟨ks, r3, r4, _, q⟩ := ih (wts (l ++ ys)) (by rw [wts_app]; omega) (l ++ ys) (fs ++ [k]) (.val x) (.val (.str k)) rfl (fun y hy => by
          rcases List.mem_append.mp hy with hy | hy
          · exact hp y (List.mem_append_left _ hy)
          · exact h6 y hy) (by rw [List.length_append, List.length_singleton, wts_app]; omega)
        refine ⟨ks, r3, r4, hl, ?_⟩
        rw [List.map_append, List.map_cons, List.map_nil] at q
        have hb : binV .add (.lst l) (.lst ys) = some (.lst (l ++ ys)) := binV_lsts (by
          have h7 := len_wts l
          have h8 := len_wts ys
          have : (2 ^ 20 : Nat) < sizeLine := by decide
          omega)
        rw [ws_nx (S' := [v0, .own (.lst (fs.map .str ++ [.str k])), .own (.lst (l ++ ys)), .val x, .val (.str k), s5]) ht]
        · exact q
        · rw [List.length_map] at hf
          simp [hpop, h3, h1, h2, h4, hb, hf, -qE_ite]
      cases x with
      | tup ys => exact node "tuple" ys in_tuple eq_tuple (by simp [isAny, isOne]) rfl rfl (pd_tup.mp hx)
      | lst ys => exact node "list" ys in_list eq_list (by simp [isAny, isOne]) rfl rfl (pd_lst.mp hx)
      | bl b => exact leaf "bool" in_bool eq_bool (by simp [isAny, isOne]) rfl
      | int b => exact leaf "other" in_other eq_other (by simp [isAny, isOne]) rfl
      | str b => exact leaf "other" in_other eq_other (by simp [isAny, isOne]) rfl
      | non => exact leaf "other" in_other eq_other (by simp [isAny, isOne]) rfl
      | _ => cases hx
def Sp_kinds (f : List PV → M PV) : Prop := ∀ v, Pd v → wt v ≤ 2 ^ 20 → ∃ ks : List Str, f [v] = pure (.lst (ks.map .str))
theorem ok__law_kinds : Sp_kinds (run T call d__law_kinds) := by
  intro v hv hw
  obtain ⟨ks, r3, r4, _, q⟩ := kinds_loop (T := T) (call := call) (.val v) .non (wts [v]) [v] [] .non .non rfl (by simpa using hv) (by simpa [wts] using hw)
  refine ⟨ks, ?_⟩
  unfold run d__law_kinds c__law_kinds
  simp at q
  simp [q]
def Sp_says (f : List PV → M PV) : Prop := ∀ v, Pd v → v.dp ≤ 64 → wt v ≤ 2 ^ 20 → f [v, v] = pure (.bl true)
theorem dp_strs (ks : List Str) : (PV.lst (ks.map .str)).dp ≤ 64 := by
  have e : ∀ ks : List Str, PV.toDs (ks.map PV.str) = some (ks.map PyData.str) := fun ks => by
    induction ks with
    | nil => rfl
    | cons k ks ih => unfold List.map PV.toDs; rw [ih]; rfl
  have d : ∀ ks : List Str, PyData.depthAll (ks.map PyData.str) ≤ 1 := fun ks => by
    induction ks with
    | nil => simp [PyData.depthAll]
    | cons k ks ih => simp [PyData.depthAll, PyData.depth]; omega
  have : (PV.lst (ks.map PV.str)).toD = some (.list (ks.map PyData.str)) := by
    show (PV.toDs _).map _ = _
    rw [e]; rfl
  unfold PV.dp
  rw [this]
  have := d ks
  simp [PyData.depth]
  omega
theorem pd_strs (ks : List Str) : Pd (.lst (ks.map .str)) := pd_lst.mpr fun x hx => by
  obtain ⟨k, _, rfl⟩ := List.mem_map.mp hx
  rfl
theorem ok__law_says {f__law_kinds : Nat} (h : Sp_kinds (call f__law_kinds)) : Sp_says (run T call (d__law_says f__law_kinds)) := by
  intro v hv hd hw
  obtain ⟨ks, hk⟩ := h v hv hw
  have e1 := eqV_refl hv hd
  have e2 := eqV_refl (pd_strs ks) (dp_strs ks)
  unfold run d__law_says c__law_says
  simp [e1, e2, hk]
/-! ### short numbers -/
def shQ (q : Rat) : Bool := decide (q.num.natAbs < 10 ^ 9) && decide (q.den < 10 ^ 9)
def shT (t : Tri) : Bool := shQ t.1 && (shQ t.2.1 && shQ t.2.2)
def Sp_is_short (f : List PV → M PV) : Prop := ∀ i : Int, f [.int i] = pure (.bl (decide (i.natAbs < 10 ^ 9)))
theorem ok_is_short {k_BEYOND : Nat} (c : HasC T k_BEYOND (.int 1000000000)) : Sp_is_short (run T call (d_is_short k_BEYOND)) := by
  obtain ⟨_, c⟩ := c
  intro i
  unfold run d_is_short c_is_short
  have : decide ((i.natAbs : Int) < 1000000000) = decide (i.natAbs < 10 ^ 9) := decide_eq_decide.mpr (by omega)
  generalize decide (i.natAbs < 10 ^ 9) = B at *
  simp [c, this]
def Sp_is_short_ratio (f : List PV → M PV) : Prop := ∀ q, f [pQ q] = pure (.bl (shQ q))
theorem ok_is_short_ratio {f_is_ratio f_is_short : Nat} (h1 : Sp_is_ratio (call f_is_ratio)) (h2 : Sp_is_short (call f_is_short)) : Sp_is_short_ratio (run T call (d_is_short_ratio f_is_ratio f_is_short)) := by
  intro q
  unfold run d_is_short_ratio c_is_short_ratio
  have e1 := h1 (pQ q) (pd_pQ q)
  rw [isR_pQ] at e1
  have e2 := h2 q.num
  have e3 := h2 q.den
  rw [Int.natAbs_natCast] at e3
  unfold shQ
  generalize decide (q.num.natAbs < 10 ^ 9) = B1 at *
  generalize decide (q.den < 10 ^ 9) = B2 at *
  cases B1 <;> simp [e1, e2, e3, pQ_0, pQ_1]
def Sp_law_short (f : List PV → M PV) : Prop := ∀ xs : List Tri, f [.lst (xs.map pT)] = pure (.bl (xs.all shT)) ∧ f [e3 xs] = pure (.bl (xs.all shT))
theorem ok__law_is_short : Sp_law_short (run T call d__law_is_short) := by
  have turn : ∀ (v : PV) (t : Tri) (s2 s3 : SV), cmpB T call (.tp [(.nm 2), (.nm 3)]) (.or (.cmp .gt (.prm .abs (.cons (.var 2) .nil)) (.cst (.int 999999999))) (.cmp .gt (.var 3) (.cst (.int 999999999)))) (.cst (.int 1)) [pQ t.1, pQ t.2.1, pQ t.2.2] [.val v, .val (pT t), s2, s3] = pure (.lst (([t.1, t.2.1, t.2.2].filter fun q => !shQ q).map fun _ => .int 1)) := fun v t s2 s3 => by
    refine cm_filter (xs := [t.1, t.2.1, t.2.2]) (e := pQ) (E := fun q => [.val v, .val (pT t), .val (.int q.num), .val (.int q.den)]) (fun q _ => by simp [IT.slots, slotsL, wipeE, bindT, bindTs, pQ]) rfl (fun q _ => ?_) (fun q _ _ => rfl)
    have e1 : decide (999999999 < (q.num.natAbs : Int)) = !decide (q.num.natAbs < 10 ^ 9) := by rw [← decide_not]; exact decide_eq_decide.mpr (by omega)
    have e2 : decide (999999999 < (q.den : Int)) = !decide (q.den < 10 ^ 9) := by rw [← decide_not]; exact decide_eq_decide.mpr (by omega)
    unfold shQ
    generalize decide (q.num.natAbs < 10 ^ 9) = B1 at *
    generalize decide (q.den < 10 ^ 9) = B2 at *
    cases B1 <;> cases B2 <;> simp [e1, e2]
  have loop : ∀ (v : PV) (xs : List Tri) (s1 s2 s3 : SV), (xs.all shT = true ∧ ∃ r1 r2 r3, forB T call (.nm 1) (.cons (.iff (.cmp .ne (.cmp1 (.tp [(.nm 2), (.nm 3)]) (.seq (.var 1)) (.or (.cmp .gt (.prm .abs (.cons (.var 2) .nil)) (.cst (.int 999999999))) (.cmp .gt (.var 3) (.cst (.int 999999999)))) (.cst (.int 1))) (.lst .nil)) (.cons (.ret (.cst (.bl false))) .nil) .nil) .nil) (xs.map pT) [.val v, s1, s2, s3] = pure (.nx [.val v, r1, r2, r3])) ∨ (xs.all shT = false ∧ forB T call (.nm 1) (.cons (.iff (.cmp .ne (.cmp1 (.tp [(.nm 2), (.nm 3)]) (.seq (.var 1)) (.or (.cmp .gt (.prm .abs (.cons (.var 2) .nil)) (.cst (.int 999999999))) (.cmp .gt (.var 3) (.cst (.int 999999999)))) (.cst (.int 1))) (.lst .nil)) (.cons (.ret (.cst (.bl false))) .nil) .nil) .nil) (xs.map pT) [.val v, s1, s2, s3] = pure (.rt (.bl false))) := by
    intro v xs
    induction xs with
    | nil => intro s1 s2 s3; exact .inl ⟨rfl, s1, s2, s3, rfl⟩
    | cons t xs ih =>
      intro s1 s2 s3
      have e1 := turn v t s2 s3
      have e2 := ones_nil ([t.1, t.2.1, t.2.2].filter fun q => !shQ q)
      rw [filter_empty] at e2
      have e3 : [t.1, t.2.1, t.2.2].all shQ = shT t := by simp [shT]
      have e4 : seqV (pT t) = some [pQ t.1, pQ t.2.1, pQ t.2.2] := rfl
      rw [e3] at e2
      generalize ([t.1, t.2.1, t.2.2].filter fun q => !shQ q).map (fun _ => PV.int 1) = W at *
      rw [List.map_cons, List.all_cons]
      generalize shT t = B at *
      cases B with
      | false =>
        refine .inr ⟨rfl, ?_⟩
        rw [fs_rt (S1 := [.val v, .val (pT t), s2, s3]) (v := .bl false) (by simp) (by simp [e4, e1, e2])]
      | true =>
        rw [fs_nx (S1 := [.val v, .val (pT t), s2, s3]) (S' := [.val v, .val (pT t), s2, s3]) (by simp) (by simp [e4, e1, e2])]
        exact ih (.val (pT t)) s2 s3
  intro xs
  constructor
  · unfold run d__law_is_short c__law_is_short
    rcases loop (.lst (xs.map pT)) xs .non .non .non with ⟨h, r1, r2, r3, e⟩ | ⟨h, e⟩
    · simp [e, h]
    · simp [e, h]
  · unfold run d__law_is_short c__law_is_short
    have e3 : seqV (e3 xs) = some (xs.map pT) := rfl
    rcases loop (Li.e3 xs) xs .non .non .non with ⟨h, r1, r2, r3, e⟩ | ⟨h, e⟩
    · simp [e, h, e3]
    · simp [e, h, e3]
/-! ### lines -/
def tS (t : Tri) : Str := Txt.join ("," : Str) [rwS t.1, rwS t.2.1, rwS t.2.2]
def lineS (xs : List Tri) : Str := Txt.join (" " : Str) (xs.map tS)
def lnT (xs : List Tri) : Nat := (xs.map fun t => (tS t).length + 1).sum
def Sp_line (f : List PV → M PV) : Prop := ∀ xs : List Tri, (∀ t ∈ xs, SzT 900 t) → lnT xs ≤ 1000000 → f [e3 xs] = pure (.str (lineS xs))
theorem one_comma : (("," : String) : Str).length = 1 := by decide +kernel
theorem one_blank : ((" " : String) : Str).length = 1 := by decide +kernel
theorem join_mth {s : Str} {ys : List Str} (h : (ys.map (·.length)).sum + ys.length * s.length ≤ 16777216) : mthV .join (.str s) [.lst (ys.map .str)] = some (.str (Txt.join s ys)) := by
  show (allStr (ys.map .str)).bind _ = _
  rw [allStr_map]
  exact if_pos h
theorem sum_ln (xs : List Tri) : ((xs.map tS).map (·.length)).sum + (xs.map tS).length * 1 = lnT xs := by
  unfold lnT
  induction xs with
  | nil => rfl
  | cons x xs ih =>
    simp only [List.map_cons, List.sum_cons, List.length_cons] at ih ⊢
    omega
theorem line_ok {f i j : Nat} (hr : Sp_ratio_word (call f)) (xs : List Tri) (S : Env) (hi : i < S.length) (hj : j < S.length) (hij : i ≠ j) (hs : ∀ t ∈ xs, SzT 900 t) (hl : lnT xs ≤ 1000000) :
    (cmpB T call (.nm i) .nil (.mth .join (.cst (.str ",")) (.cmp1 (.nm j) (.seq (.var i)) .nil (.cal f (.cons (.var j) .nil)))) (xs.map pT) S >>= fun y => M.lift (mthV .join (.str " ") [y])) = pure (.str (lineS xs)) := by
  have e1 : cmpB T call (.nm i) .nil (.mth .join (.cst (.str ",")) (.cmp1 (.nm j) (.seq (.var i)) .nil (.cal f (.cons (.var j) .nil)))) (xs.map pT) S = pure (.lst (xs.map fun t => .str (tS t))) := by
    refine cm_map (E := fun t => (S.set i .non).set i (.val (pT t))) (fun t _ => by simp [IT.slots, wipeE]) fun t ht => ?_
    have st := hs t ht
    have q : ∀ p ∈ [t.1, t.2.1, t.2.2], Sz 1900 p := fun p hp => by
      simp only [List.mem_cons, List.mem_nil_iff, or_false] at hp
      rcases hp with rfl | rfl | rfl
      · exact st.1.mono (by decide)
      · exact st.2.1.mono (by decide)
      · exact st.2.2.mono (by decide)
    have e2 : cmpB T call (.nm j) .nil (.cal f (.cons (.var j) .nil)) ([t.1, t.2.1, t.2.2].map pQ) (S.set i (.val (pT t))) = pure (.lst ([t.1, t.2.1, t.2.2].map fun p => .str (rwS p))) := by
      refine cm_map (E := fun p => ((S.set i (.val (pT t))).set j .non).set j (.val (pQ p))) (fun p _ => by simp [IT.slots, wipeE]) fun p hp => ?_
      simp [hj, hr p (q p hp)]
    have e3 : mthV .join (.str ",") [.lst ([t.1, t.2.1, t.2.2].map fun p => .str (rwS p))] = some (.str (tS t)) := by
      have := join_mth (s := ",") (ys := [rwS t.1, rwS t.2.1, rwS t.2.2]) (by
        have h1 := rwS_len (q t.1 (by simp))
        have h2 := rwS_len (q t.2.1 (by simp))
        have h3 := rwS_len (q t.2.2 (by simp))
        rw [one_comma]
        simp
        omega)
      exact this
    have e4 : seqV (pT t) = some ([t.1, t.2.1, t.2.2].map pQ) := rfl
    generalize ([t.1, t.2.1, t.2.2].map fun p => PV.str (rwS p)) = W at *
    generalize [t.1, t.2.1, t.2.2].map pQ = W2 at *
    simp [hi, e4, e2, e3]
  rw [e1, M.pure_bind]
  have := join_mth (s := " ") (ys := xs.map tS) (by
    have := sum_ln xs
    rw [one_blank]
    omega)
  rw [List.map_map] at this
  show M.lift (mthV .join (.str " ") [.lst (xs.map (PV.str ∘ tS))]) = _
  rw [this]
  rfl
theorem ok_profile_line {f_ratio_word : Nat} (h : Sp_ratio_word (call f_ratio_word)) : Sp_line (run T call (d_profile_line f_ratio_word)) := by
  intro xs hs hl
  have e := line_ok (T := T) (call := call) h xs [.val (e3 xs), .non, .non] (i := 1) (j := 2) (by simp) (by simp) (by simp) hs hl
  have b : seqV (e3 xs) = some (xs.map pT) := rfl
  unfold run d_profile_line c_profile_line
  simp [b]
  exact e
theorem ok__law_line {f__law_ratio_word : Nat} (h : Sp_ratio_word (call f__law_ratio_word)) : Sp_line (run T call (d__law_line f__law_ratio_word)) := by
  intro xs hs hl
  have e := line_ok (T := T) (call := call) h xs [.val (e3 xs), .non, .non] (i := 1) (j := 2) (by simp) (by simp) (by simp) hs hl
  have b : seqV (e3 xs) = some (xs.map pT) := rfl
  unfold run d__law_line c__law_line
  simp [b]
  exact e
end
end BA.Li
/-! Pl8 -/
set_option Elab.async false
set_option linter.all false
set_option maxRecDepth 100000
set_option maxHeartbeats 1000000
/-! Pl8: texts of profiles, there and back. -/
namespace BA.Li
open PySem L2 BA
section
variable {T : Tab} {call : Nat → List PV → M PV}
def okT (xs : List Tri) : Bool := isP xs && xs.all shT
structure Sp_profile_text (C : Nat) (f : List PV → M PV) : Prop where
  yes : ∀ xs : List Tri, (∀ t ∈ xs, SzT 900 t) → xs.length ≤ 1000000 → lnT xs ≤ 1000000 → okT xs = true → f [e3 xs] = pure (.str (lineS xs))
  short : ∀ xs : List Tri, (∀ t ∈ xs, SzT 900 t) → xs.length ≤ 1000000 → okT xs = false → f [e3 xs] = M.raise C []
  no : ∀ v, Pd v → isTup v = false → f [v] = M.raise C []
theorem pT_seq (t : Tri) : seqV (pT t) = some ([t.1, t.2.1, t.2.2].map pQ) := rfl
theorem ok_profile_text {C_BadProfile f_is_profile_of f_is_short_ratio f_profile_line : Nat} (h1 : Sp_is_profile_of (call f_is_profile_of)) (h2 : Sp_is_short_ratio (call f_is_short_ratio)) (h3 : Sp_line (call f_profile_line)) : Sp_profile_text C_BadProfile (run T call (d_profile_text C_BadProfile f_is_profile_of f_is_short_ratio f_profile_line)) := by
  have all2 : ∀ (xs : List Tri), xs.length ≤ 1000000 → cmp2B T call (.nm 1) .nil (.nm 2) (.seq (.var 1)) .nil (.cal f_is_short_ratio (.cons (.var 2) .nil)) (xs.map pT) [.val (e3 xs), .non, .non] = pure (.lst (xs.flatMap fun t => [t.1, t.2.1, t.2.2].map fun q => .bl (shQ q))) := fun xs hl => by
    refine cm2_map (e := pT) (g := fun t q => .bl (shQ q)) (inner := fun t => [t.1, t.2.1, t.2.2]) (e2 := pQ) (E := fun t => [.val (e3 xs), .val (pT t), .non]) (E2 := fun t q => [.val (e3 xs), .val (pT t), .val (pQ q)]) (fun t _ => by simp [IT.slots, wipeE]) (fun t _ => ?_) (fun t _ q _ => by simp [IT.slots, wipeE]) (fun t _ q _ => by simp [h2 q]) ?_
    · have e := pT_seq t
      generalize [t.1, t.2.1, t.2.2].map pQ = W at *
      simp [e]
    · have key : ∀ xs : List Tri, (xs.flatMap fun t => [t.1, t.2.1, t.2.2].map fun q => PV.bl (shQ q)).length = 3 * xs.length := fun xs => by
        induction xs with
        | nil => rfl
        | cons x xs ih => rw [List.flatMap_cons, List.length_append, ih, List.length_cons, List.length_map]; simp; omega
      rw [key]
      have : (3000000 : Nat) ≤ sizeLine := by decide
      omega
  have prim2 : ∀ (xs : List Tri), primV .all [.lst (xs.flatMap fun t => [t.1, t.2.1, t.2.2].map fun q => .bl (shQ q))] = some (.bl (xs.all shT)) := fun xs => by
    have e : (xs.flatMap fun t => [t.1, t.2.1, t.2.2].map fun q => PV.bl (shQ q)) = (xs.flatMap fun t => [shQ t.1, shQ t.2.1, shQ t.2.2]).map .bl := by
      rw [List.map_flatMap]
      rfl
    rw [e]
    show (allBl _).map _ = _
    rw [allBl_map, Option.map_some]
    congr 2
    rw [List.all_flatMap]
    congr 1
    funext t
    simp [shT]
  have sq : ∀ xs : List Tri, seqV (e3 xs) = some (xs.map pT) := fun xs => rfl
  constructor
  · intro xs hs hl hn ho
    have e1 := h1.yes xs hs
    unfold okT at ho
    rw [Bool.and_eq_true] at ho
    rw [ho.1] at e1
    have a := all2 xs hl
    have p := prim2 xs
    rw [ho.2] at p
    have e3' := h3 xs hs hn
    have s := sq xs
    unfold run d_profile_text c_profile_text
    generalize (xs.flatMap fun t => [t.1, t.2.1, t.2.2].map fun q => PV.bl (shQ q)) = W at *
    simp [e1, s, a, p, e3']
  · intro xs hs hl ho
    have e1 := h1.yes xs hs
    unfold okT at ho
    have a := all2 xs hl
    have p := prim2 xs
    have s := sq xs
    unfold run d_profile_text c_profile_text
    generalize (xs.flatMap fun t => [t.1, t.2.1, t.2.2].map fun q => PV.bl (shQ q)) = W at *
    generalize isP xs = B1 at *
    generalize xs.all shT = B2 at *
    cases B1 with
    | false => simp [e1]
    | true => cases B2 with
      | true => cases ho
      | false => simp [e1, s, a, p]
  · intro v hv hn
    have e1 := h1.no v hv hn
    unfold run d_profile_text c_profile_text
    simp [e1]
/-! ### reading -/
/-- what the words of a text tell -/
def tri3 : List Rat → Option Tri
  | [a, b, c] => some (a, b, c)
  | _ => none
def wordT (p : Str) : Option Tri := (allS ((parts p ",").map ratW)).bind tri3
def parseT (w : Str) : Option (List Tri) := allS ((parts w " ").map wordT)
def readT (w : Str) : Option (List Tri) := match parseT w with
  | some xs => if isP xs = true then some xs else none
  | none => none
def encT (o : Option (List Tri)) (C : Nat) : M PV := match o with
  | some xs => pure (e3 xs)
  | none => M.raise C [.non]
theorem allS_mem {α : Type} {l : List (Option α)} {xs : List α} (h : allS l = some xs) : ∀ x ∈ xs, some x ∈ l := fun x hx => by
  rw [allS_some.mp h]
  exact List.mem_map.mpr ⟨x, hx, rfl⟩
theorem sh_sz {k : Nat} {q : Rat} (h : q.num.natAbs < 10 ^ 9 ∧ q.den < 10 ^ 9) (hk : 30 ≤ k) : Sz k q := by
  have e : (10 : Nat) ^ 9 ≤ 2 ^ 30 := by decide
  exact Sz.mono (a := 30) ⟨Nat.lt_of_lt_of_le h.1 e, Nat.lt_of_lt_of_le h.2 e⟩ hk
theorem wordT_sz {p : Str} {t : Tri} (h : wordT p = some t) : SzT 900 t ∧ shT t = true ∧ tS t = p := by
  unfold wordT at h
  cases q : allS ((parts p ",").map ratW) with
  | none => rw [q] at h; cases h
  | some l =>
    rw [q] at h
    have ht : tri3 l = some t := h
    unfold tri3 at ht
    split at ht
    · rename_i a b c
      cases ht
      have hm := allS_mem q
      have key : ∀ x ∈ [a, b, c], (x.num.natAbs < 10 ^ 9 ∧ x.den < 10 ^ 9) ∧ ∃ u, u ∈ parts p "," ∧ rwS x = u := fun x hx => by
        obtain ⟨u, hu, e⟩ := List.mem_map.mp (hm x hx)
        obtain ⟨h1, h2⟩ := rat1_lt e
        exact ⟨h1, u, hu, h2⟩
      have ka := (key a (by simp)).1
      have kb := (key b (by simp)).1
      have kc := (key c (by simp)).1
      refine ⟨⟨sh_sz ka (by decide), sh_sz kb (by decide), sh_sz kc (by decide)⟩, ?_, ?_⟩
      · simp only [shT, shQ, Bool.and_eq_true, decide_eq_true_eq]
        exact ⟨ka, kb, kc⟩
      · have e : (parts p ",").map ratW = [a, b, c].map some := allS_some.mp q
        have : [rwS a, rwS b, rwS c] = parts p "," := by
          have gen : ∀ (us : List Str) (xs : List Rat), us.map ratW = xs.map some → xs.map rwS = us := fun us => by
            induction us with
            | nil => intro xs h; cases xs with
              | nil => rfl
              | cons x xs => cases h
            | cons u us ih => intro xs h; cases xs with
              | nil => cases h
              | cons x xs =>
                rw [List.map_cons, List.map_cons, List.cons.injEq] at h
                rw [List.map_cons, ih xs h.2, (rat1_lt h.1).2]
          exact gen _ _ e
        show Txt.join ("," : Str) [rwS a, rwS b, rwS c] = p
        rw [this, join_parts]
    · cases ht
theorem parseT_ok {w : Str} {xs : List Tri} (h : parseT w = some xs) : (∀ t ∈ xs, SzT 900 t) ∧ xs.all shT = true ∧ lineS xs = w ∧ xs.length ≤ w.length + 1 ∧ lnT xs = w.length + 1 := by
  have e := allS_some.mp h
  have m := allS_mem h
  have key : ∀ t ∈ xs, SzT 900 t ∧ shT t = true := fun t ht => by
    obtain ⟨p, _, hp⟩ := List.mem_map.mp (m t ht)
    obtain ⟨a, b, _⟩ := wordT_sz hp
    exact ⟨a, b⟩
  have gen : ∀ (us : List Str) (xs : List Tri), us.map wordT = xs.map some → xs.map tS = us := fun us => by
    induction us with
    | nil => intro xs h; cases xs with
      | nil => rfl
      | cons x xs => cases h
    | cons u us ih => intro xs h; cases xs with
      | nil => cases h
      | cons x xs =>
        rw [List.map_cons, List.map_cons, List.cons.injEq] at h
        rw [List.map_cons, ih xs h.2, (wordT_sz h.1).2.2]
  have e2 := gen _ _ e
  have e3 := sum_len w (" " : Str)
  have e4 := sum_ln xs
  rw [e2] at e4
  rw [one_blank] at e3
  have hne := parts_ne w (" " : Str)
  have hpos : 0 < (parts w (" " : Str)).length := List.length_pos_iff.mpr hne
  have el : xs.length = (parts w (" " : Str)).length := by rw [← e2, List.length_map]
  refine ⟨fun t ht => (key t ht).1, List.all_eq_true.mpr fun t ht => (key t ht).2, ?_, by omega, by omega⟩
  unfold lineS
  rw [e2, join_parts]
structure Sp_read_profile (C : Nat) (f : List PV → M PV) : Prop where
  text : ∀ w : Str, w.length ≤ 900000 → f [.str w] = encT (readT w) C
  no : ∀ v, Pd v → strV v = none → f [v] = M.raise C [.non]
theorem encL_tri (o : Option (List Rat)) : isTri (encL o) = (o.bind tri3).isSome := by
  cases o with
  | none => rfl
  | some l =>
    show isTri (.tup (l.map pQ)) = (tri3 l).isSome
    by_cases h : l.length = 3
    · match l, h with
      | [a, b, c], _ => simp [isTri, isR_pQ, tri3]
    · rw [isTri_len (by simpa using h)]
      unfold tri3
      split
      · exact absurd rfl h
      · rfl
theorem pd_encL (o : Option (List Rat)) : Pd (encL o) := by
  cases o with
  | none => rfl
  | some l =>
    refine pd_tup.mpr fun x hx => ?_
    obtain ⟨q, _, rfl⟩ := List.mem_map.mp hx
    rfl
theorem encL_of {o : Option (List Rat)} {t : Tri} (h : o.bind tri3 = some t) : encL o = pT t := by
  cases o with
  | none => cases h
  | some l =>
    have h' : tri3 l = some t := h
    unfold tri3 at h'
    split at h'
    · cases h'; rfl
    · cases h'
theorem not_tri {os : List (Option (List Rat))} (h : allS (os.map (·.bind tri3)) = none) : (os.map encL).all isTri = false := by
  have := allS_none.mp h
  rw [List.any_map] at this
  obtain ⟨o, ho, hn⟩ := List.any_eq_true.mp this
  refine List.all_eq_false.mpr ⟨encL o, List.mem_map.mpr ⟨o, ho, rfl⟩, ?_⟩
  rw [encL_tri]
  have hn' : (o.bind tri3).isNone = true := hn
  cases q : o.bind tri3 with
  | none => simp
  | some t => rw [q] at hn'; cases hn'
theorem all_tri {os : List (Option (List Rat))} {xs : List Tri} (h : allS (os.map (·.bind tri3)) = some xs) : PV.tup (os.map encL) = e3 xs ∧ (os.map encL).any isNonV = false := by
  have e := allS_some.mp h
  clear h
  unfold e3
  have key : os.map encL = xs.map pT ∧ (os.map encL).any isNonV = false := by
    induction os generalizing xs with
    | nil => cases xs with
      | nil => exact ⟨rfl, rfl⟩
      | cons x xs => cases e
    | cons o os ih => cases xs with
      | nil => cases e
      | cons x xs =>
        rw [List.map_cons, List.map_cons, List.cons.injEq] at e
        obtain ⟨a, b⟩ := ih e.2
        rw [List.map_cons, List.map_cons, a, encL_of e.1]
        refine ⟨rfl, ?_⟩
        rw [List.any_cons, ← a, b]
        rfl
  rw [key.1] at *
  exact ⟨rfl, key.2⟩
theorem blank_len : (((" " : String) : Str)).length ≠ 0 := by decide +kernel
theorem ok_read_profile {C_BadText f_is_profile_of f_triple_from : Nat} (h1 : Sp_is_profile_of (call f_is_profile_of)) (h2 : Sp_triple_from (call f_triple_from)) : Sp_read_profile C_BadText (run T call (d_read_profile C_BadText f_is_profile_of f_triple_from)) := by
  constructor
  · intro w hw
    have hz : 900002 ≤ sizeLine := by decide
    have e1 := split_mth blank_len (w := w) (by omega)
    have e2 : cmpB T call (.nm 2) .nil (.cal f_triple_from (.cons (.var 2) .nil)) ((parts w " ").map .str) [.val (.str w), .non, .non] = pure (.lst (((parts w " ").map fun p => allS ((parts p ",").map ratW)).map encL)) := by
      rw [List.map_map]
      refine cm_map (E := fun z => [.val (.str w), .non, .val (.str z)]) (fun c _ => by simp [IT.slots, wipeE]) fun z hz2 => ?_
      have := parts_len blank_len z hz2
      simp [h2 z (by omega)]
    have hp : parseT w = allS (((parts w " ").map fun p => allS ((parts p ",").map ratW)).map (·.bind tri3)) := by
      unfold parseT
      rw [List.map_map]
      rfl
    unfold readT
    unfold run d_read_profile c_read_profile
    have sz := @parseT_ok w
    generalize (parts w " ").map (fun p => allS ((parts p ",").map ratW)) = os at *
    have e5 := inV_non (ys := os.map encL) (fun y hy => by obtain ⟨o, _, rfl⟩ := List.mem_map.mp hy; exact pd_encL _)
    cases q : parseT w with
    | none =>
      rw [q] at hp
      have e6 := h1.odd (os.map encL) (fun y hy => by obtain ⟨o, _, rfl⟩ := List.mem_map.mp hy; exact pd_encL _) (not_tri hp.symm)
      generalize os.map encL = W at *
      cases r : W.any isNonV with
      | true =>
        rw [r] at e5
        simp [isAny, isOne, e1, e2, e5, encT]
      | false =>
        rw [r] at e5
        simp [isAny, isOne, e1, e2, e5, e6, encT]
    | some xs =>
      rw [q] at hp
      obtain ⟨a1, a2⟩ := all_tri hp.symm
      have e6 := h1.yes xs (sz q).1
      rw [a2] at e5
      rw [← a1] at e6
      have ee : encT (if isP xs = true then some xs else none) C_BadText = if isP xs = true then pure (.tup (os.map encL)) else M.raise C_BadText [.non] := by
        rw [a1]
        split <;> rfl
      show _ = encT (if isP xs = true then some xs else none) C_BadText
      rw [ee]
      clear a1 ee
      generalize os.map encL = W at *
      generalize isP xs = B at *
      cases B with
      | false => simp [isAny, isOne, e1, e2, e5, e6]
      | true => simp [isAny, isOne, e1, e2, e5, e6]
  · intro v hv hn
    have e5 := inV_non (ys := []) (by simp)
    have e6 := h1.yes [] (by simp)
    have e7 : isAny T v [.str] = some false := by
      cases v <;> first | (cases hv; done) | (cases hn; done) | rfl
    have e8 : e3 [] = .tup [] := rfl
    have e9 : isP [] = false := rfl
    rw [e8, e9] at e6
    unfold run d_read_profile c_read_profile
    simp [e7, e5, e6]
end
end BA.Li
/-! Pl9 -/
set_option Elab.async false
set_option linter.all false
set_option maxRecDepth 100000
set_option maxHeartbeats 1000000
/-! Pl9: the law's own reading. -/
namespace BA.Li
open PySem L2 BA
section
variable {T : Tab} {call : Nat → List PV → M PV}
def dueW (l : List (Option Rat)) : PV := .tup (l.map encR)
theorem pd_dueW (l : List (Option Rat)) : Pd (dueW l) := pd_tup.mpr fun x hx => by
  obtain ⟨o, _, rfl⟩ := List.mem_map.mp hx
  exact pd_encR o
theorem isTri_dueW (l : List (Option Rat)) (h : (allS l).bind tri3 = none) : isTri (dueW l) = false := by
  cases q : isTri (dueW l) with
  | false => rfl
  | true =>
    exfalso
    obtain ⟨t, ht⟩ := isTri_of q
    have e : l.map encR = [pQ t.1, pQ t.2.1, pQ t.2.2] := by
      have := ht
      unfold dueW pT at this
      exact PV.tup.inj this
    have inj : ∀ (o : Option Rat) (p : Rat), encR o = pQ p → o = some p := fun o p z => by
      cases o with
      | none => cases z
      | some q =>
        have z' : pQ q = pQ p := z
        unfold pQ at z'
        have z2 := PV.tup.inj z'
        simp only [List.cons.injEq, PV.int.injEq] at z2
        exact congrArg some (Rat.ext z2.1 (by have := z2.2.1; omega))
    match l, e with
    | [a, b, c], e =>
      simp only [List.map_cons, List.map_nil, List.cons.injEq] at e
      rw [inj a _ e.1, inj b _ e.2.1, inj c _ e.2.2.1] at h
      cases h
theorem dueW_tri (l : List (Option Rat)) {t : Tri} (h : (allS l).bind tri3 = some t) : dueW l = pT t := by
  cases q : allS l with
  | none => rw [q] at h; cases h
  | some xs =>
    rw [q] at h
    have e := allS_some.mp q
    have h' : tri3 xs = some t := h
    unfold tri3 at h'
    split at h'
    · cases h'
      subst e
      rfl
    · cases h'
theorem dueW_tris : ∀ (os : List (List (Option Rat))) (xs : List Tri), (os.map fun l => (allS l).bind tri3) = xs.map some → os.map dueW = xs.map pT
  | [], [], _ => rfl
  | [], _ :: _, h => by cases h
  | _ :: _, [], h => by cases h
  | o :: os, x :: xs, h => by
    rw [List.map_cons, List.map_cons, List.cons.injEq] at h
    rw [List.map_cons, List.map_cons, dueW_tri o h.1, dueW_tris os xs h.2]
theorem wt_pQ (q : Rat) : wt (pQ q) = 3 := rfl
theorem wt_e3 (xs : List Tri) : wt (e3 xs) = 1 + 10 * xs.length := by
  show 1 + wts (xs.map pT) = _
  congr 1
  induction xs with
  | nil => rfl
  | cons x xs ih =>
    rw [List.map_cons, wts, ih, List.length_cons]
    have : wt (pT x) = 10 := rfl
    omega
theorem dp_e3 (xs : List Tri) : (e3 xs).dp ≤ 64 := by
  have e : PV.toDs (xs.map pT) = some (xs.map fun t => PyData.tuple [.tuple [.int t.1.num, .int t.1.den], .tuple [.int t.2.1.num, .int t.2.1.den], .tuple [.int t.2.2.num, .int t.2.2.den]]) := by
    induction xs with
    | nil => rfl
    | cons x xs ih => unfold List.map PV.toDs; rw [ih]; rfl
  have d : PyData.depthAll (xs.map fun t => PyData.tuple [.tuple [.int t.1.num, .int t.1.den], .tuple [.int t.2.1.num, .int t.2.1.den], .tuple [.int t.2.2.num, .int t.2.2.den]]) ≤ 10 := by
    clear e
    induction xs with
    | nil => simp [PyData.depthAll]
    | cons k ks ih => simp [PyData.depthAll, PyData.depth]; omega
  have : (e3 xs).toD = some (.tuple (xs.map fun t => PyData.tuple [.tuple [.int t.1.num, .int t.1.den], .tuple [.int t.2.1.num, .int t.2.1.den], .tuple [.int t.2.2.num, .int t.2.2.den]])) := by
    show (PV.toDs _).map _ = _
    rw [e]; rfl
  unfold PV.dp
  rw [this]
  simp only [Option.map_some, Option.getD_some, PyData.depth]
  omega
def Sp_is_read (f : List PV → M PV) : Prop := ∀ w : Str, w.length ≤ 90000 → f [.str w] = pure (.bl true)
theorem ok__law_is_read {C_BadText a_line C_BadProfile f__law_is_profile f__law_ratio_of f__law_says f_profile_text f_read_profile : Nat} (hC : ExcC T C_BadText [a_line]) (h1 : Sp_law_profile (call f__law_is_profile)) (h2 : Sp_ratio_from (call f__law_ratio_of)) (h3 : Sp_says (call f__law_says)) (h4 : Sp_profile_text C_BadProfile (call f_profile_text)) (h5 : Sp_read_profile C_BadText (call f_read_profile)) : Sp_is_read (run T call (d__law_is_read C_BadText a_line f__law_is_profile f__law_ratio_of f__law_says f_profile_text f_read_profile)) := by
  intro w hw
  have hz : 90002 ≤ sizeLine := by decide
  have e1 := split_mth blank_len (w := w) (by omega)
  have e2 : cmpB T call (.nm 3) .nil (.prm .tuple (.cons (.cmp1 (.nm 4) (.seq (.mth .split (.var 3) (.cst (.str ",")))) .nil (.cal f__law_ratio_of (.cons (.var 4) .nil))) .nil)) ((parts w " ").map .str) [.val (.str w), .non, .non, .non, .non] = pure (.lst (((parts w " ").map fun p => (parts p ",").map ratW).map dueW)) := by
    rw [List.map_map]
    refine cm_map (E := fun z => [.val (.str w), .non, .non, .val (.str z), .non]) (fun c _ => by simp [IT.slots, wipeE]) fun p hp => ?_
    have lp := parts_len blank_len p hp
    have e3 := split_mth comma_len (w := p) (by omega)
    have e4 : cmpB T call (.nm 4) .nil (.cal f__law_ratio_of (.cons (.var 4) .nil)) ((parts p ",").map .str) [.val (.str w), .non, .non, .val (.str p), .non] = pure (.lst (((parts p ",").map ratW).map encR)) := by
      rw [List.map_map]
      refine cm_map (E := fun z => [.val (.str w), .non, .non, .val (.str p), .val (.str z)]) (fun c _ => by simp [IT.slots, wipeE]) fun z hz2 => ?_
      have := parts_len comma_len z hz2
      simp [h2 z (by omega)]
    simp only [Function.comp, dueW]
    generalize ((parts p ",").map ratW).map encR = W at *
    simp [e3, e4]
  have hp : parseT w = allS (((parts w " ").map fun p => (parts p ",").map ratW).map fun l => (allS l).bind tri3) := by
    unfold parseT
    rw [List.map_map]
    rfl
  have sz := @parseT_ok w
  have hr := h5.text w (by omega)
  unfold readT at hr
  unfold run d__law_is_read c__law_is_read
  generalize (parts w " ").map (fun p => (parts p ",").map ratW) = os at *
  -- what is refused
  have refused : call f_read_profile [.str w] = M.raise C_BadText [.non] → ∀ v1 S3 S4, evE T call (.cau (.cal f_read_profile (.cons (.var 0) .nil))) [.val (.str w), v1, .non, S3, S4] = pure (.exn C_BadText [.non]) := fun h v1 S3 S4 => cau_raise (by simp [h]) hC.exc
  have isx := hC.is [.non]
  have fx : ((T.flds.getD C_BadText []).zip [PV.non]).lookup a_line = some .non := by
    rw [hC.flds]
    simp
  cases q : parseT w with
  | none =>
    rw [q] at hp hr
    have no : (os.map dueW).all isTri = false := by
      have := allS_none.mp hp.symm
      rw [List.any_map] at this
      obtain ⟨o, ho, hn⟩ := List.any_eq_true.mp this
      refine List.all_eq_false.mpr ⟨dueW o, List.mem_map.mpr ⟨o, ho, rfl⟩, ?_⟩
      have hn' : (((allS o).bind tri3)).isNone = true := hn
      rw [isTri_dueW o (Option.isNone_iff_eq_none.mp hn')]
      exact Bool.false_ne_true
    have e3 := h1.odd (os.map dueW) (fun x hx => by obtain ⟨o, _, rfl⟩ := List.mem_map.mp hx; exact pd_dueW o) no
    generalize os.map dueW = W at *
    have rf := refused hr
    simp [e1, e2, e3, rf, isx, hC.exc, -List.getD_eq_getElem?_getD, fx, isNonV]
  | some xs =>
    rw [q] at hp hr
    obtain ⟨s1, s2, s3, s4, s5⟩ := sz q
    have du : os.map dueW = xs.map pT :=
       dueW_tris os xs (allS_some.mp hp.symm)
    have e3' := h1.yes xs s1
    rw [← isP_lawP] at e3'
    have e4 := h4.yes xs s1 (by omega) (by omega)
    rw [s3] at e4
    have e5 := h3 (e3 xs) (pd_e3 xs) (dp_e3 xs) (by rw [wt_e3]; omega)
    have du' : PV.tup (os.map dueW) = e3 xs := by rw [du]; rfl
    have ok : okT xs = isP xs := by unfold okT; rw [s2, Bool.and_true]
    rw [ok] at e4
    rw [← du'] at e3' e4 e5
    have hr' : call f_read_profile [.str w] = if isP xs = true then pure (.tup (os.map dueW)) else M.raise C_BadText [.non] := by
      rw [hr, du']
      show encT (if isP xs = true then some xs else none) C_BadText = _
      split <;> rfl
    clear du du' hr
    generalize os.map dueW = W at *
    generalize isP xs = B at *
    cases B with
    | false =>
      have rf := refused hr'
      simp [e1, e2, e3', rf, isx, hC.exc, -List.getD_eq_getElem?_getD, fx, isNonV]
    | true =>
      have e4' := e4 rfl
      have hr2 : call f_read_profile [.str w] = pure (.tup W) := hr'
      simp [e1, e2, e3', e4', e5, hr2]
end
end BA.Li
/-! PlSure -/
set_option Elab.async false
set_option linter.all false
set_option maxRecDepth 100000
set_option maxHeartbeats 1000000
/-! PlSure: what surely comes of a piece that draws, at a bounded number of turns. -/
namespace BA
open PySem
/-- from each state: an answer with P, at most c turns more -/
def Sure {α : Type} (c : Nat) (m : M α) (P : α → Prop) : Prop := ∀ (D : Dr) (t : Nat), D.turn.natAbs ≤ t → t + c ≤ 2 ^ 60 → ∃ a D', m D = some (.ok a, D') ∧ P a ∧ D'.turn.natAbs ≤ t + c
section
variable {α β : Type} {c d : Nat} {m : M α} {f : α → M β} {P Q : α → Prop} {R : β → Prop}
theorem Sure.pure {a : α} (h : P a) : Sure c (pure a : M α) P := fun D t ht _ => ⟨a, D, rfl, h, by omega⟩
theorem Sure.of {a : α} (e : m = Pure.pure a) (h : P a) : Sure c m P := by rw [e]; exact Sure.pure h
theorem Sure.bind (h1 : Sure c m P) (h2 : ∀ a, P a → Sure d (f a) R) : Sure (c + d) (m >>= f) R := fun D t ht hb => by
  obtain ⟨a, D1, e1, p1, t1⟩ := h1 D t ht (by omega)
  obtain ⟨b, D2, e2, p2, t2⟩ := h2 a p1 D1 (t + c) t1 (by omega)
  refine ⟨b, D2, ?_, p2, by omega⟩
  rw [M.bind_eq, e1]
  exact e2
theorem Sure.mono (h : Sure c m P) (i : ∀ a, P a → Q a) (hc : c ≤ d) : Sure d m Q := fun D t ht hb => by
  obtain ⟨a, D1, e1, p1, t1⟩ := h D t ht (by omega)
  exact ⟨a, D1, e1, i a p1, by omega⟩
theorem Sure.le (h : Sure c m P) (hc : c ≤ d) : Sure d m P := h.mono (fun _ h => h) hc
theorem Sure.imp (h : Sure c m P) (i : ∀ a, P a → Q a) : Sure c m Q := h.mono i (Nat.le_refl _)
theorem Sure.lift {a : α} {o : Option α} (e : o = some a) (h : P a) : Sure c (M.lift o) P := by rw [e]; exact Sure.pure h
end
/-- a walk over things, each with at most c turns -/
theorem Sure.for_ {c : Nat} {body : PV → Env → M Fl} {I : Nat → Env → Prop} {B : Env → Prop} {R : PV → Prop} : ∀ {xs : List PV} {S : Env} (k : Nat), I k S →
    (∀ i x S, xs[i]? = some x → I (k + i) S → Sure c (body x S) fun f => match f with
      | .nx S' => I (k + i + 1) S'
      | .ct S' => I (k + i + 1) S'
      | .bk S' => B S'
      | .rt v => R v) → Sure (xs.length * c) (forL body xs S) fun f => match f with
      | .nx S' => I (k + xs.length) S' ∨ B S'
      | .rt v => R v
      | _ => False
  | [], S, k, h0, _ => Sure.pure (.inl h0)
  | x :: xs, S, k, h0, h => by
    have e : (x :: xs).length * c = c + xs.length * c := by rw [List.length_cons, Nat.add_mul, Nat.one_mul, Nat.add_comm]
    rw [e]
    have next : ∀ S', I (k + 1) S' → Sure (xs.length * c) (forL body xs S') fun f => match f with
      | .nx S' => I (k + (x :: xs).length) S' ∨ B S'
      | .rt v => R v
      | _ => False := fun S' hS' => by
      refine (Sure.for_ (B := B) (R := R) (I := I) (k + 1) hS' fun i y S1 hy h1 => ?_).imp fun f hf => ?_
      · have := h (i + 1) y S1 hy (by rw [show k + (i + 1) = k + 1 + i by omega]; exact h1)
        rw [show k + (i + 1) + 1 = k + 1 + i + 1 by omega] at this
        exact this
      · cases f with
        | nx S1 => rcases hf with h | h
                   · left; rw [List.length_cons, show k + (xs.length + 1) = k + 1 + xs.length by omega]; exact h
                   · exact .inr h
        | rt v => exact hf
        | bk _ => exact hf
        | ct _ => exact hf
    refine Sure.bind (h 0 x S rfl h0) fun f hf => ?_
    cases f with
    | nx S' => exact next S' hf
    | ct S' => exact next S' hf
    | bk S' => exact Sure.pure (.inr hf)
    | rt v => exact Sure.pure hf
theorem Sure.comp {α : Type} {c : Nat} {f : PV → M (Option PV)} {e : α → PV} {P : α → Option PV → Prop} : ∀ {xs : List α}, (∀ x ∈ xs, Sure c (f (e x)) (P x)) → Sure (xs.length * c) (compL f (xs.map e)) fun ys => ∃ os : List (Option PV), os.length = xs.length ∧ (∀ (i : Nat) (x : α) (o : Option PV), xs[i]? = some x → os[i]? = some o → P x o) ∧ ys = os.filterMap id
  | [], _ => Sure.pure ⟨[], rfl, fun i x o h => by simp at h, rfl⟩
  | x :: xs, h => by
    have e : (x :: xs).length * c = c + xs.length * c := by rw [List.length_cons, Nat.add_mul, Nat.one_mul, Nat.add_comm]
    rw [e]
    refine Sure.bind (h x (List.mem_cons_self ..)) fun o ho => ?_
    have ih := Sure.comp (c := c) (f := f) (P := P) fun y hy => h y (List.mem_cons_of_mem _ hy)
    refine Sure.bind (d := 0) ih fun ys hys => ?_
    obtain ⟨os, h1, h2, h3⟩ := hys
    refine Sure.pure ⟨o :: os, by rw [List.length_cons, List.length_cons, h1], fun i y p a b => ?_, ?_⟩
    · cases i with
      | zero => cases a; cases b; exact ho
      | succ i => exact h2 i y p a b
    · cases o with
      | none => simp [h3]
      | some y => simp [h3]
end BA
/-! PlDraw -/
set_option Elab.async false
set_option linter.all false
set_option maxRecDepth 100000
set_option maxHeartbeats 1000000
/-! PlDraw: what surely comes of the law's draws. -/
namespace BA
open PySem L2
def M.get {α : Type} (g : Dr → α) : M α := fun d => some (.ok (g d), d)
def M.put (g : Dr → Dr) : M Unit := fun d => some (.ok (), g d)
def M.pop1 : M PV := fun d => popM d d.large
section
variable {T : Tab} {call : Nat → List PV → M PV} {S : Env} {i : Nat} (h : S[i]? = some (.val .drw))
include h
theorem drd_turn : evE T call (.drd true i) S = M.get fun d => PV.int d.turn := by
  show drwM S i (M.get fun d => PV.int d.turn) = _
  unfold drwM
  rw [h]
theorem drd_rest : evE T call (.drd false i) S = M.get fun d => PV.int d.rest := by
  show drwM S i (M.get fun d => PV.int d.rest) = _
  unfold drwM
  rw [h]
theorem dcl_ok : evE T call (.dcl i) S = M.get fun d => PV.lst (d.cells.map .int) := by
  show drwM S i (M.get fun d => PV.lst (d.cells.map .int)) = _
  unfold drwM
  rw [h]
theorem dne_ok : evE T call (.dne i) S = M.get fun d => PV.bl (!d.large.isEmpty) := by
  show drwM S i (M.get fun d => PV.bl (!d.large.isEmpty)) = _
  unfold drwM
  rw [h]
theorem dpp_ok : evE T call (.dpp i) S = M.pop1 := by
  show drwM S i M.pop1 = _
  unfold drwM
  rw [h]
theorem dst_turn {e : IE} : evS T call (.dst true i e) S = evE T call e S >>= fun v => M.lift (intV v) >>= fun z => M.put (fun d => { d with turn := z }) >>= fun _ => pure (.nx S) := by
  show (evE T call e S >>= fun v => M.lift (intV v) >>= fun z => drwM S i (M.put (fun d => { d with turn := z }) >>= fun _ => pure (Fl.nx S))) = _
  unfold drwM
  rw [h]
theorem dst_rest {e : IE} : evS T call (.dst false i e) S = evE T call e S >>= fun v => M.lift (intV v) >>= fun z => M.put (fun d => { d with rest := z }) >>= fun _ => pure (.nx S) := by
  show (evE T call e S >>= fun v => M.lift (intV v) >>= fun z => drwM S i (M.put (fun d => { d with rest := z }) >>= fun _ => pure (Fl.nx S))) = _
  unfold drwM
  rw [h]
end
theorem Sure.put_rest {g : Int} {P : Unit → Prop} (h : P ()) : Sure 0 (M.put fun d => { d with rest := g }) P := fun D t ht hb => ⟨(), { D with rest := g }, rfl, h, ht⟩
theorem Sure.put_turn {g : Int} {P : Unit → Prop} (h : P ()) : Sure 0 (M.put fun d => { d with rest := g }) P := fun D t ht hb => ⟨(), { D with rest := g }, rfl, h, ht⟩
section
variable {α β : Type} {c d : Nat} {P : α → Prop}
theorem Sure.get {g : Dr → α} (h : ∀ D : Dr, D.turn.natAbs ≤ 2 ^ 60 → P (g D)) : Sure 0 (M.get g) P := fun D t ht hb => ⟨g D, D, rfl, h D (by omega), ht⟩
/-- a walk over things, each with at most c turns -/
theorem Sure.forB {T : Tab} {call : Nat → List PV → M PV} {t : IT} {b : IB} {c : Nat} {I : Nat → Env → Prop} {R : PV → Prop} {xs : List PV} {S : Env} (h0 : I 0 S)
    (h : ∀ i x S, xs[i]? = some x → I i S → ∃ S1, bindT t x S = some S1 ∧ Sure c (evB T call b S1) fun f => match f with
      | .nx S' => I (i + 1) S'
      | .ct S' => I (i + 1) S'
      | .bk _ => False
      | .rt v => R v) : Sure (xs.length * c) (forB T call t b xs S) fun f => match f with
      | .nx S' => I xs.length S'
      | .rt v => R v
      | _ => False := by
  have := Sure.for_ (c := c) (body := fun x S' => M.lift (bindT t x S') >>= fun S'' => evB T call b S'') (I := I) (B := fun _ => False) (R := R) (xs := xs) (S := S) 0 h0 fun i x S hx hi => by
    rw [Nat.zero_add] at hi
    obtain ⟨S1, e, q⟩ := h i x S hx hi
    rw [e, M.lift_some, M.pure_bind, Nat.zero_add]
    exact q
  refine this.imp fun f hf => ?_
  cases f with
  | nx S' =>
    rcases hf with hf | hf
    · rw [Nat.zero_add] at hf; exact hf
    · exact hf.elim
  | rt v => exact hf
  | bk _ => exact hf
  | ct _ => exact hf
/-- one statement, then the rest -/
theorem Sure.seq {T : Tab} {call : Nat → List PV → M PV} {s : IS} {b : IB} {S : Env} {P : Fl → Prop} (h : Sure c (evS T call s S) fun f => match f with
    | .nx S' => Sure d (evB T call b S') P
    | f => P f) : Sure (c + d) (evB T call (.cons s b) S) P := by
  rw [qB_cons]
  refine Sure.bind h fun f hf => ?_
  cases f with
  | nx S' => exact hf
  | rt v => exact Sure.pure hf
  | bk v => exact Sure.pure hf
  | ct v => exact Sure.pure hf
theorem Sure.run {T : Tab} {call : Nat → List PV → M PV} {dd : FD} {vs : List PV} {P : PV → Prop} (hl : vs.length = dd.np) (h : Sure c (evB T call dd.body (vs.map .val ++ List.replicate (dd.N.length - vs.length) .non)) fun f => match f with
    | .nx _ => P .non
    | .rt v => P v
    | _ => False) : Sure c (BA.run T call dd vs) P := by
  unfold BA.run
  rw [if_pos hl]
  have := Sure.bind (d := 0) (f := finV) (R := P) h fun f hf => by
    cases f with
    | nx S' => exact Sure.pure hf
    | rt v => exact Sure.pure hf
    | bk v => exact hf.elim
    | ct v => exact hf.elim
  exact this
end
end BA
namespace BA.Li
open PySem BA L2
section
variable {T : Tab} {call : Nat → List PV → M PV}
def Sp_mixed (f : List PV → M PV) : Prop := Sure 1 (f [.drw]) fun v => ∃ z, v = .int z
theorem inc_turn {S : Env} (h : S[0]? = some (.val .drw)) : Sure 1 (evS T call (.dst true 0 (.bin .add (.drd true 0) (.cst (.int 1)))) S) fun f => f = .nx S := fun D t ht hb => by
  refine ⟨.nx S, { D with turn := D.turn + 1 }, ?_, rfl, ?_⟩
  · rw [dst_turn h, qE_bin, drd_turn h]
    rfl
  · show (D.turn + 1).natAbs ≤ t + 1
    omega
theorem log_small {n : Nat} {k : Nat} (h : n < 2 ^ k) (hk : 0 < k) : n.log2 < k := by
  by_cases z : n = 0
  · subst z; simpa using hk
  · exact (Nat.log2_lt z).mpr h
theorem mulS {a b : Int} {i j : Nat} (h1 : a.natAbs < 2 ^ i) (h2 : b.natAbs < 2 ^ j) (hi : 0 < i := by decide) (hj : 0 < j := by decide) (h : i + j ≤ 900000 := by decide) : binV .mul (.int a) (.int b) = some (.int (a * b)) := binV_mul (by
  have k1 := log_small h1 hi
  have k2 := log_small h2 hj
  omega)
theorem cells_loop (g : Int) (hg : 0 < g) (hg2 : g.natAbs < 2 ^ 40) (turn found : Int) (v1 v0 : SV) : ∀ (cells : List Int) (blend : Int) (s5 : SV), 0 ≤ blend → blend < g → ∃ b' r5, 0 ≤ b' ∧ b' < g ∧ forB T call (.nm 5) (.cons (.asg (.nm 4) (.bin .mod (.bin .add (.bin .add (.bin .mul (.var 4) (.cst (.int 69621))) (.prm .int (.cons (.var 5) .nil))) (.var 2)) (.var 1))) .nil) (cells.map .int) [v0, .val (.int g), .val (.int turn), .val (.int found), .val (.int blend), s5] = pure (.nx [v0, .val (.int g), .val (.int turn), .val (.int found), .val (.int b'), r5])
  | [], blend, s5, h1, h2 => ⟨blend, s5, h1, h2, rfl⟩
  | c :: cells, blend, s5, h1, h2 => by
    have m := mulS (a := blend) (b := 69621) (i := 40) (j := 20) (by omega) (by decide)
    obtain ⟨b', r5, q1, q2, q⟩ := cells_loop g hg hg2 turn found v1 v0 cells ((blend * 69621 + c + turn).fmod g) (.val (.int c)) (Int.fmod_nonneg_of_pos _ hg) (Int.fmod_lt_of_pos _ hg)
    refine ⟨b', r5, q1, q2, ?_⟩
    have hm := binV_mod (a := blend * 69621 + c + turn) (b := g) (by omega)
    rw [List.map_cons, fs_nx (S1 := [v0, .val (.int g), .val (.int turn), .val (.int found), .val (.int blend), .val (.int c)]) (S' := [v0, .val (.int g), .val (.int turn), .val (.int found), .val (.int ((blend * 69621 + c + turn).fmod g)), .val (.int c)]) (by simp) (by simp [m, hm])]
    exact q
theorem ok__law_mixed : Sp_mixed (run T call d__law_mixed) := by
  refine Sure.run rfl ?_
  unfold d__law_mixed c__law_mixed
  refine Sure.seq (c := 1) (d := 0) ((inc_turn rfl).imp fun f hf => ?_)
  subst hf
  refine Sure.seq (c := 0) (d := 0) ?_
  have ev : evS T call (.par 2 3 false false (.prm .int (.cons (.drd true 0) .nil)) (.cst (.int 0))) [.val .drw, .non, .non, .non, .non, .non] = (M.get fun d => d.turn) >>= fun z => pure (.nx [.val .drw, .non, .val (.int z), .val (.int 0), .non, .non]) := by
    rw [qS_par, qE_prm, qA_cons, drd_turn rfl]
    rfl
  show Sure 0 (evS T call _ [.val .drw, .non, .non, .non, .non, .non]) _
  rw [ev]
  refine Sure.bind (c := 0) (d := 0) (P := fun z => z.natAbs ≤ 2 ^ 60) (Sure.get fun D h => h) fun turn ht => Sure.pure ?_
  refine Sure.seq (c := 0) (d := 0) ?_
  have gs : evI T call (.seq (.lst (.cons (.cst (.int 2147483647)) (.cons (.cst (.int 2147483629)) (.cons (.cst (.int 2147483587)) .nil))))) [.val .drw, .non, .val (.int turn), .val (.int 0), .non, .non] = pure ([2147483647, 2147483629, 2147483587].map PV.int) := by simp
  rw [qS_forB, gs, M.pure_bind]
  refine (Sure.forB (c := 0) (I := fun i S => ∃ s1 s4 s5 found, S = [.val .drw, s1, .val (.int turn), .val (.int found), s4, s5] ∧ found.natAbs < 2 ^ (40 * i + 1)) (R := fun _ => False) ⟨_, _, _, _, rfl, by decide⟩ fun i x S hx hi => ?_).imp fun f hf => ?_
  · obtain ⟨s1, s4, s5, found, rfl, hf⟩ := hi
    have hil : i < 3 := by
      have := (List.getElem?_eq_some_iff.mp hx).1
      simpa using this
    rw [List.getElem?_map] at hx
    obtain ⟨g, hg0, rfl⟩ := Option.map_eq_some_iff.mp hx
    have hg : 0 < g ∧ g < 2 ^ 31 := by
      have := List.mem_of_getElem? hg0
      simp only [List.mem_cons, List.mem_nil_iff, or_false] at this
      rcases this with rfl | rfl | rfl <;> decide
    refine ⟨[.val .drw, .val (.int g), .val (.int turn), .val (.int found), s4, s5], by simp, ?_⟩
    have m1 := mulS (a := turn) (b := 48271) (i := 61) (j := 20) (by omega) (by decide)
    have d1 := binV_fdiv (a := g) (b := 11) (by decide) (by decide)
    have d2 := binV_mod (a := turn * 48271 + g.fdiv 11) (b := g) (by omega)
    refine Sure.seq (c := 0) (d := 0) (Sure.of (a := .nx [.val .drw, .val (.int g), .val (.int turn), .val (.int found), .val (.int ((turn * 48271 + g.fdiv 11).fmod g)), s5]) (by simp [m1, d1, d2]) ?_)
    refine Sure.seq (c := 0) (d := 0) ?_
    have ec : evI T call (.seq (.dcl 0)) [.val .drw, .val (.int g), .val (.int turn), .val (.int found), .val (.int ((turn * 48271 + g.fdiv 11).fmod g)), s5] = (M.get fun d => d.cells) >>= fun cs => pure (cs.map PV.int) := by
      rw [qI_seq, dcl_ok rfl]
      rfl
    rw [qS_forB, ec, M.bind_assoc]
    refine Sure.bind (c := 0) (d := 0) (P := fun _ => True) (Sure.get fun D h => trivial) fun cells _ => ?_
    rw [M.pure_bind]
    obtain ⟨b', r5, q1, q2, q⟩ := cells_loop (T := T) (call := call) g hg.1 (by omega) turn found .non (.val .drw) cells ((turn * 48271 + g.fdiv 11).fmod g) s5 (Int.fmod_nonneg_of_pos _ hg.1) (Int.fmod_lt_of_pos _ hg.1)
    refine Sure.of q ?_
    have hf2 : found.natAbs < 2 ^ 122 := Nat.lt_of_lt_of_le hf (Nat.pow_le_pow_right (by decide) (by omega))
    have m2 := mulS (a := found) (b := 2147483659) (i := 122) (j := 40) hf2 (by decide)
    have p1 : binV .pow (.int b') (.int 5) = some (.int (b' ^ 5)) := by
      show (if (0 : Int) ≤ 5 ∧ (5 : Int) ≤ 1000000 ∧ b'.natAbs < 2 ^ 64 then some (PV.int (b' ^ (5 : Int).toNat)) else none) = _
      rw [if_pos ⟨by decide, by decide, by omega⟩]
      rfl
    have d3 := binV_mod (a := b' ^ 5) (b := g) (by omega)
    refine Sure.seq (c := 0) (d := 0) (Sure.of (a := .nx [.val .drw, .val (.int g), .val (.int turn), .val (.int (found * 2147483659 + (b' ^ 5).fmod g)), .val (.int b'), r5]) (by simp [m2, p1, d3]) (Sure.of rfl ⟨_, _, _, _, rfl, ?_⟩))
    have h1 := Int.fmod_nonneg_of_pos (b' ^ 5) hg.1
    have h2 := Int.fmod_lt_of_pos (b' ^ 5) hg.1
    have e : 40 * (i + 1) + 1 = (40 * i + 1) + 40 := by omega
    rw [e, Nat.pow_add]
    have h3 : (found * 2147483659 + (b' ^ 5).fmod g).natAbs ≤ found.natAbs * 2147483659 + ((b' ^ 5).fmod g).natAbs := by
      refine Nat.le_trans (Int.natAbs_add_le _ _) ?_
      rw [Int.natAbs_mul]
      exact Nat.le_refl _
    have h4 : ((b' ^ 5).fmod g).natAbs < 2 ^ 31 := by omega
    have h5 : found.natAbs + 1 ≤ 2 ^ (40 * i + 1) := hf
    have h6 : (found.natAbs + 1) * 2 ^ 40 ≤ 2 ^ (40 * i + 1) * 2 ^ 40 := Nat.mul_le_mul_right _ h5
    omega
  · cases f with
    | nx S' =>
      obtain ⟨s1, s4, s5, found, rfl, hf⟩ := hf
      exact Sure.of (a := .rt (.int found)) (by simp) ⟨found, rfl⟩
    | rt v => exact hf.elim
    | bk v => exact hf.elim
    | ct v => exact hf.elim
/-- a number from 0 to amount - 1 -/
def Sp_take (f : List PV → M PV) : Prop := ∀ n : Nat, 0 < n → n < 2 ^ 64 → Sure 1 (f [.drw, .int n]) fun v => ∃ r : Nat, v = .int r ∧ r < n
theorem Sure.pop1 {D : Dr} {x : Int} {r : List Int} (h : D.large = x :: r) : M.pop1 D = some (.ok (.int x), { D with large := r }) := by
  unfold M.pop1
  show popM D D.large = _
  rw [h]
  rfl
theorem take_rest {f__law_mixed : Nat} (h : Sp_mixed (call f__law_mixed)) {s1 s2 : SV} : Sure 1 (evS T call (.iff (.cmp .eq (.drd false 0) (.cst (.int 0))) (.cons (.dst false 0 (.ite (.dne 0) (.dpp 0) (.cal f__law_mixed (.cons (.var 0) .nil)))) .nil) .nil) [.val .drw, s1, s2]) fun f => f = .nx [.val .drw, s1, s2] := by
  have hS : ([.val .drw, s1, s2] : Env)[0]? = some (.val .drw) := rfl
  have ec : evE T call (.cmp .eq (.drd false 0) (.cst (.int 0))) [.val .drw, s1, s2] = (M.get fun d => PV.bl (decide (d.rest = 0))) := by
    rw [qE_cmp, drd_rest hS]
    rfl
  rw [qS_iff, ec]
  refine Sure.bind (c := 0) (d := 1) (P := fun v => ∃ b, v = .bl b) (Sure.get fun D _ => ⟨_, rfl⟩) fun v hv => ?_
  obtain ⟨b, rfl⟩ := hv
  rw [truV_bl, M.lift_some, M.pure_bind]
  cases b with
  | false => exact Sure.of (a := .nx [.val .drw, s1, s2]) rfl rfl
  | true =>
    rw [if_pos rfl, qB_cons, dst_rest hS, qE_ite, dne_ok hS, dpp_ok hS]
    have inner : Sure 1 ((M.get fun d => PV.bl (!d.large.isEmpty)) >>= fun x => M.lift (truV x) >>= fun d => if d = true then M.pop1 else evE T call (.cal f__law_mixed (.cons (.var 0) .nil)) [.val .drw, s1, s2]) fun v => ∃ z, v = .int z := fun D t ht hb => by
      cases e : D.large with
      | cons x r =>
        refine ⟨.int x, { D with large := r }, ?_, ⟨x, rfl⟩, by show D.turn.natAbs ≤ t + 1; omega⟩
        rw [M.bind_eq]
        show (M.lift (truV (PV.bl (!D.large.isEmpty))) >>= _) D = _
        rw [e]
        exact Sure.pop1 e
      | nil =>
        have e2 : ((M.get fun d => PV.bl (!d.large.isEmpty)) >>= fun x => M.lift (truV x) >>= fun d => if d = true then M.pop1 else evE T call (.cal f__law_mixed (.cons (.var 0) .nil)) [.val .drw, s1, s2]) D = evE T call (.cal f__law_mixed (.cons (.var 0) .nil)) [.val .drw, s1, s2] D := by
          rw [M.bind_eq]
          show (M.lift (truV (PV.bl (!D.large.isEmpty))) >>= _) D = _
          rw [e]
          rfl
        rw [e2]
        have e3 : evE T call (.cal f__law_mixed (.cons (.var 0) .nil)) [.val .drw, s1, s2] = call f__law_mixed [.drw] := by simp
        rw [e3]
        exact h D t ht hb
    rw [M.bind_assoc]
    refine Sure.bind (c := 1) (d := 0) inner fun v hv => ?_
    obtain ⟨z, rfl⟩ := hv
    rw [intV_int, M.lift_some, M.pure_bind, M.bind_assoc]
    refine Sure.bind (c := 0) (d := 0) (P := fun _ => True) (Sure.put_rest trivial) fun _ _ => ?_
    exact Sure.of (a := .nx [.val .drw, s1, s2]) rfl rfl
theorem ok__law_take {f__law_mixed : Nat} (h : Sp_mixed (call f__law_mixed)) : Sp_take (run T call (d__law_take f__law_mixed)) := by
  intro n hn hn2
  refine Sure.run rfl ?_
  unfold d__law_take c__law_take
  refine Sure.seq (c := 1) (d := 0) ((take_rest h (s1 := .val (.int n)) (s2 := .non)).imp fun f hf => ?_)
  subst hf
  have hS : ([.val .drw, .val (.int n), .non] : Env)[0]? = some (.val .drw) := rfl
  refine Sure.seq (c := 0) (d := 0) ?_
  have e1 : evS T call (.asg (.nm 2) (.bin .mod (.prm .int (.cons (.drd false 0) .nil)) (.var 1))) [.val .drw, .val (.int n), .non] = (M.get fun d => d.rest) >>= fun z => pure (.nx [.val .drw, .val (.int n), .val (.int (z.fmod n))]) := by
    rw [qS_asg, qE_bin, qE_prm, qA_cons, drd_rest hS]
    have q : ∀ z : Int, binV .mod (.int z) (.int n) = some (.int (z.fmod n)) := fun z => binV_mod (by omega)
    funext d
    show (M.lift (binV .mod (.int d.rest) (.int n)) >>= _) d = _
    rw [q]
    rfl
  rw [e1]
  refine Sure.bind (c := 0) (d := 0) (P := fun _ => True) (Sure.get fun D _ => trivial) fun z _ => Sure.of rfl ?_
  have h1 := Int.fmod_nonneg_of_pos z (show (0 : Int) < n by omega)
  have h2 := Int.fmod_lt_of_pos z (show (0 : Int) < n by omega)
  obtain ⟨r, hr⟩ := Int.eq_ofNat_of_zero_le h1
  rw [hr] at h2 ⊢
  refine Sure.seq (c := 0) (d := 0) ?_
  have hS2 : ([.val .drw, .val (.int n), .val (.int r)] : Env)[0]? = some (.val .drw) := rfl
  have e2 : evS T call (.dst false 0 (.bin .fdiv (.prm .int (.cons (.drd false 0) .nil)) (.var 1))) [.val .drw, .val (.int n), .val (.int r)] = (M.get fun d => d.rest) >>= fun z => (M.put fun d => { d with rest := z.fdiv n }) >>= fun _ => pure (.nx [.val .drw, .val (.int n), .val (.int r)]) := by
    rw [dst_rest hS2, qE_bin, qE_prm, qA_cons, drd_rest hS2]
    have hl : (n : Int).natAbs.log2 < 9000 := by
      rw [Int.natAbs_natCast]
      exact Nat.lt_of_lt_of_le (log_small hn2 (by decide)) (by decide)
    have q : ∀ z : Int, binV .fdiv (.int z) (.int n) = some (.int (z.fdiv n)) := fun z => binV_fdiv (by omega) hl
    funext d
    show ((M.lift (binV .fdiv (.int d.rest) (.int n))) >>= _) d = _
    rw [q]
    rfl
  rw [e2]
  refine Sure.bind (c := 0) (d := 0) (P := fun _ => True) (Sure.get fun D _ => trivial) fun z2 _ => ?_
  refine Sure.bind (c := 0) (d := 0) (P := fun _ => True) (Sure.put_rest trivial) fun _ _ => Sure.of rfl ?_
  exact Sure.of (a := .rt (.int r)) (by simp) ⟨r, rfl, by omega⟩
/-- one of some things -/
def Sp_pick (f : List PV → M PV) : Prop := ∀ xs : List PV, xs ≠ [] → xs.length < 2 ^ 64 → Sure 1 (f [.drw, .lst xs]) (fun v => v ∈ xs) ∧ Sure 1 (f [.drw, .tup xs]) (fun v => v ∈ xs)
theorem ok__law_pick {f__law_take : Nat} (h : Sp_take (call f__law_take)) : Sp_pick (run T call (d__law_pick f__law_take)) := by
  intro xs hx hl
  have hp := List.length_pos_iff.mpr hx
  have tk := h xs.length hp hl
  constructor
  · refine Sure.run rfl ?_
    unfold d__law_pick c__law_pick
    refine Sure.seq (c := 1) (d := 0) ?_
    have e : evS T call (.ret (.ix (.var 1) (.cal f__law_take (.cons (.var 0) (.cons (.prm .len (.cons (.var 1) .nil)) .nil))))) [.val .drw, .val (.lst xs)] = call f__law_take [.drw, .int xs.length] >>= fun v => M.lift (ixV (.lst xs) v) >>= fun y => pure (.rt y) := by simp
    show Sure 1 (evS T call _ [.val .drw, .val (.lst xs)]) _
    rw [e]
    refine Sure.bind (c := 1) (d := 0) tk fun v hv => ?_
    obtain ⟨r, rfl, hr⟩ := hv
    rw [ixV_nat_lst, List.getElem?_eq_getElem hr, M.lift_some, M.pure_bind]
    exact Sure.pure (List.getElem_mem hr)
  · refine Sure.run rfl ?_
    unfold d__law_pick c__law_pick
    refine Sure.seq (c := 1) (d := 0) ?_
    have e : evS T call (.ret (.ix (.var 1) (.cal f__law_take (.cons (.var 0) (.cons (.prm .len (.cons (.var 1) .nil)) .nil))))) [.val .drw, .val (.tup xs)] = call f__law_take [.drw, .int xs.length] >>= fun v => M.lift (ixV (.tup xs) v) >>= fun y => pure (.rt y) := by simp
    show Sure 1 (evS T call _ [.val .drw, .val (.tup xs)]) _
    rw [e]
    refine Sure.bind (c := 1) (d := 0) tk fun v hv => ?_
    obtain ⟨r, rfl, hr⟩ := hv
    rw [ixV_nat_tup, List.getElem?_eq_getElem hr, M.lift_some, M.pure_bind]
    exact Sure.pure (List.getElem_mem hr)
/-- things in a drawn sequence -/
def Sp_shuffled (f : List PV → M PV) : Prop := ∀ xs : List PV, xs.length ≤ 1000 → (∀ x ∈ xs, Pd x) → Sure xs.length (f [.drw, .lst xs]) fun v => ∃ ys, v = .lst ys ∧ ys.Perm xs
theorem erase_perm {α : Type} : ∀ (l : List α) (r : Nat) (h : r < l.length), (l[r] :: l.eraseIdx r).Perm l
  | a :: l, 0, _ => .refl _
  | a :: l, r + 1, h => by
    have h' : r < l.length := by simpa using h
    have ih := erase_perm l r h'
    show (l[r] :: a :: l.eraseIdx r).Perm (a :: l)
    exact (List.Perm.swap _ _ _).trans (List.Perm.cons _ ih)
theorem shuffled_loop {f__law_take : Nat} (h : Sp_take (call f__law_take)) (xs : List PV) : ∀ (n : Nat) (left found : List PV), left.length = n → n + found.length ≤ 1000 → (∀ x ∈ left, Pd x) → Sure n (evS T call (.whl (.cmp .ne (.bvar 2) (.lst .nil)) (.cons (.appP 3 2 (.cal f__law_take (.cons (.var 0) (.cons (.prm .len (.cons (.bvar 2) .nil)) .nil)))) .nil)) [.val .drw, .val (.lst xs), .own (.lst left), .own (.lst found)]) fun f => ∃ ys, f = .nx [.val .drw, .val (.lst xs), .own (.lst []), .own (.lst (found ++ ys))] ∧ ys.Perm left
  | 0, left, found, hl, _, _ => by
    have : left = [] := List.length_eq_zero_iff.mp hl
    subst this
    have e := eqV_lst_nil (xs := []) (by simp)
    exact Sure.of (ws_end (by simp [e])) ⟨[], by rw [List.append_nil], .refl _⟩
  | n + 1, left, found, hl, hb, hp => by
    have e := eqV_lst_nil hp
    have e' : left.isEmpty = false := by cases left with
      | nil => cases hl
      | cons _ _ => rfl
    rw [e'] at e
    have ht : evE T call (.cmp .ne (.bvar 2) (.lst .nil)) [.val .drw, .val (.lst xs), .own (.lst left), .own (.lst found)] = pure (.bl true) := by simp [e]
    have turn : evS T call (.whl (.cmp .ne (.bvar 2) (.lst .nil)) (.cons (.appP 3 2 (.cal f__law_take (.cons (.var 0) (.cons (.prm .len (.cons (.bvar 2) .nil)) .nil)))) .nil)) [.val .drw, .val (.lst xs), .own (.lst left), .own (.lst found)] = evB T call (.cons (.appP 3 2 (.cal f__law_take (.cons (.var 0) (.cons (.prm .len (.cons (.bvar 2) .nil)) .nil)))) .nil) [.val .drw, .val (.lst xs), .own (.lst left), .own (.lst found)] >>= fun f => match f with
        | .nx S' => evS T call (.whl (.cmp .ne (.bvar 2) (.lst .nil)) (.cons (.appP 3 2 (.cal f__law_take (.cons (.var 0) (.cons (.prm .len (.cons (.bvar 2) .nil)) .nil)))) .nil)) S'
        | .ct S' => evS T call (.whl (.cmp .ne (.bvar 2) (.lst .nil)) (.cons (.appP 3 2 (.cal f__law_take (.cons (.var 0) (.cons (.prm .len (.cons (.bvar 2) .nil)) .nil)))) .nil)) S'
        | .bk S' => pure (.nx S')
        | .rt v => pure (.rt v) := by
      conv => lhs; rw [qS_whl, whlL_turn, ht]
      rfl
    rw [turn, Nat.add_comm]
    have body : Sure 1 (evB T call (.cons (.appP 3 2 (.cal f__law_take (.cons (.var 0) (.cons (.prm .len (.cons (.bvar 2) .nil)) .nil)))) .nil) [.val .drw, .val (.lst xs), .own (.lst left), .own (.lst found)]) fun f => ∃ r : Nat, ∃ h : r < left.length, f = .nx [.val .drw, .val (.lst xs), .own (.lst (left.eraseIdx r)), .own (.lst (found ++ [left[r]]))] := by
      refine Sure.seq (c := 1) (d := 0) ?_
      have e2 : evS T call (.appP 3 2 (.cal f__law_take (.cons (.var 0) (.cons (.prm .len (.cons (.bvar 2) .nil)) .nil)))) [.val .drw, .val (.lst xs), .own (.lst left), .own (.lst found)] = call f__law_take [.drw, .int left.length] >>= fun v => M.lift ((intV v).bind fun z => if small z = true then (seqIndex? z left.length).bind fun k => (left[k]?).map fun y => (k, y) else none) >>= fun q => if found.length < sizeLine then pure (Fl.nx [.val .drw, .val (.lst xs), .own (.lst (left.eraseIdx q.1)), .own (.lst (found ++ [q.2]))]) else M.stuck := by
        rw [qS_appP]
        simp
      rw [e2]
      refine Sure.bind (c := 1) (d := 0) (h left.length (by omega) (by omega)) fun v hv => ?_
      obtain ⟨r, rfl, hr⟩ := hv
      have s1 : small (r : Int) = true := by
        unfold small
        rw [Bool.and_eq_true, decide_eq_true_eq, decide_eq_true_eq]
        omega
      have s2 : seqIndex? (r : Int) left.length = some r := by
        unfold seqIndex?
        have a1 : ¬ ((r : Int) < 0) := by omega
        simp [a1, hr]
      have s3 : found.length < sizeLine := by
        have : (1000 : Nat) < sizeLine := by decide
        omega
      rw [intV_int, Option.bind_some, if_pos s1, s2, Option.bind_some, List.getElem?_eq_getElem hr, Option.map_some, M.lift_some, M.pure_bind, if_pos s3]
      exact Sure.of rfl (Sure.of rfl ⟨r, hr, rfl⟩)
    refine Sure.bind body fun f hf => ?_
    obtain ⟨r, hr, rfl⟩ := hf
    have hlen : (left.eraseIdx r).length = n := by rw [List.length_eraseIdx_of_lt hr]; omega
    refine (shuffled_loop h xs n (left.eraseIdx r) (found ++ [left[r]]) hlen (by rw [List.length_append, List.length_singleton]; omega) fun x hx => hp x (List.mem_of_mem_eraseIdx hx)).imp fun f hf => ?_
    obtain ⟨ys, rfl, py⟩ := hf
    refine ⟨left[r] :: ys, by rw [List.append_assoc]; rfl, ?_⟩
    exact (List.Perm.cons _ py).trans (erase_perm left r hr)
theorem ok__law_shuffled {f__law_take : Nat} (h : Sp_take (call f__law_take)) : Sp_shuffled (run T call (d__law_shuffled f__law_take)) := by
  intro xs hl hp
  refine Sure.run rfl ?_
  unfold d__law_shuffled c__law_shuffled
  have e : xs.length = 0 + (xs.length + 0) := by omega
  rw [e]
  refine Sure.seq (Sure.of (a := .nx [.val .drw, .val (.lst xs), .own (.lst xs), .own (.lst [])]) (by simp) ?_)
  refine Sure.seq ((shuffled_loop h xs xs.length xs [] rfl (by simpa using hl) hp).imp fun f hf => ?_)
  obtain ⟨ys, rfl, py⟩ := hf
  exact Sure.of (a := .rt (.lst ys)) (by simp) ⟨ys, rfl, py⟩
end
end BA.Li
/-! Pl10 -/
set_option Elab.async false
set_option linter.all false
set_option maxRecDepth 100000
set_option maxHeartbeats 1000000
/-! Pl10: drawn triples. -/
namespace BA.Li
open PySem L2 BA
/-! ### the profile with told kept, from the top -/
def ft (a : Rat) : List (Rat × Rat) → List Tri
  | [] => []
  | [z] => [(z.1, z.1 + a, z.2)]
  | z :: y :: r => match ft a (y :: r) with
    | [] => []
    | t :: ts => (z.1, t.2.1 - z.2 * (y.1 - z.1), z.2) :: t :: ts
/-- what is known at the first of some -/
def kn (a : Rat) (zs : List (Rat × Rat)) : Rat := match ft a zs with
  | [] => 0
  | t :: _ => t.2.1
theorem ft_cons (a : Rat) (z y : Rat × Rat) (r : List (Rat × Rat)) : ft a (z :: y :: r) = (z.1, kn a (y :: r) - z.2 * (y.1 - z.1), z.2) :: ft a (y :: r) := by
  have key : ∀ (r : List (Rat × Rat)) (y : Rat × Rat), ∃ t ts, ft a (y :: r) = t :: ts := fun r => by
    induction r with
    | nil => intro y; exact ⟨_, _, rfl⟩
    | cons x r ih =>
      intro y
      obtain ⟨t, ts, e⟩ := ih x
      refine ⟨(y.1, t.2.1 - y.2 * (x.1 - y.1), y.2), t :: ts, ?_⟩
      conv => lhs; unfold ft
      rw [e]
  obtain ⟨t, ts, e⟩ := key r y
  have e2 : kn a (y :: r) = t.2.1 := by unfold kn; rw [e]
  rw [e2]
  conv => lhs; unfold ft
  rw [e]
theorem ft_head (a : Rat) : ∀ (r : List (Rat × Rat)) (z : Rat × Rat), ∃ ts, ft a (z :: r) = (z.1, kn a (z :: r), z.2) :: ts
  | [], z => ⟨[], rfl⟩
  | y :: r, z => by
    have e := ft_cons a z y r
    refine ⟨ft a (y :: r), ?_⟩
    have : kn a (z :: y :: r) = kn a (y :: r) - z.2 * (y.1 - z.1) := by
      conv => lhs; unfold kn
      rw [e]
    rw [this]
    exact e
theorem kn_cons (a : Rat) (z y : Rat × Rat) (r : List (Rat × Rat)) : kn a (z :: y :: r) = kn a (y :: r) - z.2 * (y.1 - z.1) := by
  conv => lhs; unfold kn
  rw [ft_cons]
theorem ft_len (a : Rat) : ∀ (zs : List (Rat × Rat)), (ft a zs).length = zs.length
  | [] => rfl
  | [z] => rfl
  | z :: y :: r => by
    rw [ft_cons, List.length_cons, ft_len a (y :: r)]
    rfl
/-- sizes -/
structure ZsOk (zs : List (Rat × Rat)) : Prop where
  sz : ∀ z ∈ zs, Sz 100 z.1 ∧ Sz 20 z.2
  df : ∀ p ∈ zs.zip zs.tail, Sz 20 (p.2.1 - p.1.1)
  len : zs.length ≤ 20
theorem ZsOk.tail {z : Rat × Rat} {zs : List (Rat × Rat)} (h : ZsOk (z :: zs)) : ZsOk zs := by
  refine ⟨fun x hx => h.sz x (List.mem_cons_of_mem _ hx), fun p hp => h.df p ?_, by have := h.len; rw [List.length_cons] at this; omega⟩
  cases zs with
  | nil => cases hp
  | cons y r => exact List.mem_cons_of_mem _ hp
theorem kn_sz {a : Rat} (ha : Sz 20 a) : ∀ (r : List (Rat × Rat)) (z : Rat × Rat), ZsOk (z :: r) → Sz (121 + 41 * r.length) (kn a (z :: r))
  | [], z, h => by
    have := ((h.sz z (List.mem_cons_self ..)).1).add ha
    exact this.mono (by simp)
  | y :: r, z, h => by
    have ih := kn_sz ha r y h.tail
    rw [kn_cons]
    have d := h.df (z, y) (by simp)
    have := ih.sub ((h.sz z (List.mem_cons_self ..)).2.mul d)
    exact this.mono (by rw [List.length_cons]; omega)
theorem ft_sz {a : Rat} (ha : Sz 20 a) : ∀ (zs : List (Rat × Rat)), ZsOk zs → ∀ t ∈ ft a zs, SzT 900 t
  | [], _, t, ht => by cases ht
  | [z], h, t, ht => by
    rw [List.mem_singleton.mp ht]
    obtain ⟨h1, h2⟩ := h.sz z (List.mem_cons_self ..)
    exact ⟨h1.mono (by decide), (h1.add ha).mono (by decide), h2.mono (by decide)⟩
  | z :: y :: r, h, t, ht => by
    rw [ft_cons] at ht
    rcases List.mem_cons.mp ht with rfl | ht
    · obtain ⟨h1, h2⟩ := h.sz z (List.mem_cons_self ..)
      have k := kn_sz ha (y :: r) z h
      rw [kn_cons] at k
      have l := h.len
      refine ⟨h1.mono (by decide), k.mono ?_, h2.mono (by decide)⟩
      simp only [List.length_cons] at l ⊢
      omega
    · exact ft_sz ha (y :: r) h.tail t ht
/-- told kept that make a profile -/
def asc : List (Rat × Rat) → Prop
  | [] => True
  | [_] => True
  | z :: y :: r => (z.1 < y.1 ∧ z.2 < y.2) ∧ asc (y :: r)
theorem ft_chain (a : Rat) : ∀ (zs : List (Rat × Rat)), asc zs → chain (ft a zs) = true
  | [], _ => rfl
  | [z], _ => rfl
  | z :: y :: r, h => by
    obtain ⟨ts, e⟩ := ft_head a r y
    have ih := ft_chain a (y :: r) h.2
    rw [ft_cons, e] at *
    rw [chain_cons, ih, Bool.and_true]
    unfold goT
    rw [Bool.and_eq_true, Bool.and_eq_true, decide_eq_true_eq, decide_eq_true_eq, decide_eq_true_eq]
    refine ⟨h.1.1, h.1.2, ?_⟩
    show kn a (y :: r) = kn a (y :: r) - z.2 * (y.1 - z.1) + z.2 * (y.1 - z.1)
    rw [Rat.sub_add_cancel]
theorem ft_last (a : Rat) : ∀ (r : List (Rat × Rat)) (z : Rat × Rat) (t : Tri) (ts : List Tri), ft a (z :: r) = t :: ts → lastT t ts = (((z :: r).getLast (by simp)).1, ((z :: r).getLast (by simp)).1 + a, ((z :: r).getLast (by simp)).2)
  | [], z, t, ts, h => by
    have : [(z.1, z.1 + a, z.2)] = t :: ts := h
    cases this
    rfl
  | y :: r, z, t, ts, h => by
    obtain ⟨us, e⟩ := ft_head a r y
    rw [ft_cons, e] at h
    cases h
    have := ft_last a r y _ _ e
    show lastT (y.1, kn a (y :: r), y.2) us = _
    have g : (z :: y :: r).getLast (by simp) = (y :: r).getLast (by simp) := List.getLast_cons (by simp)
    rw [this, g]
theorem ft_isP {a : Rat} (ha : 0 ≤ a) {z : Rat × Rat} {r : List (Rat × Rat)} (h0 : z.1 = 0) (h1 : 0 ≤ z.2) (h2 : asc (z :: r)) (h3 : ((z :: r).getLast (by simp)).2 = 1) : isP (ft a (z :: r)) = true := by
  rw [isP_lawP]
  obtain ⟨ts, e⟩ := ft_head a r z
  have l := ft_last a r z _ _ e
  have c := ft_chain a _ h2
  rw [e] at c ⊢
  unfold lawP
  simp only
  rw [l, c]
  simp only [Bool.and_true, Bool.and_eq_true, decide_eq_true_eq, Bool.not_eq_true', decide_eq_false_iff_not]
  refine ⟨h0, h3, h1, ?_⟩
  rw [Rat.not_lt]
  have := (Rat.add_le_add_left (c := ((z :: r).getLast (by simp)).1)).mpr ha
  rw [Rat.add_zero] at this
  exact this
section
variable {T : Tab} {call : Nat → List PV → M PV}
def Sp_from_top (f : List PV → M PV) : Prop := ∀ (zs : List (Rat × Rat)) (a : Rat), zs ≠ [] → ZsOk zs → Sz 20 a → f [.lst (zs.map fun z => pQ z.1), .lst (zs.map fun z => pQ z.2), pQ a] = pure (e3 (ft a zs))
theorem drop_two {α : Type} {zs : List α} {i : Nat} (h : i + 1 < zs.length) : zs.drop i = zs[i] :: zs[i + 1] :: zs.drop (i + 2) := by
  rw [List.drop_eq_getElem_cons (by omega), List.drop_eq_getElem_cons h]
theorem ZsOk.drop {zs : List (Rat × Rat)} (h : ZsOk zs) : ∀ i, ZsOk (zs.drop i) := fun i => by
  induction i with
  | zero => exact h
  | succ i ih =>
    by_cases hl : i < zs.length
    · rw [List.drop_eq_getElem_cons hl] at ih
      exact ih.tail
    · rw [List.drop_eq_nil_of_le (by omega)]
      exact ⟨fun z hz => (by cases hz), fun p hp => (by cases hp), by simp⟩
theorem top_loop {f__law_minus f__law_times : Nat} (h1 : Sp_sub (call f__law_minus)) (h3 : Sp_mul (call f__law_times)) (zs : List (Rat × Rat)) (a : Rat) (hz : ZsOk zs) (ha : Sz 20 a) (v2 : SV) : ∀ (i : Nat) (s3 : SV), i < zs.length → ∃ r3 r4,
    forB T call (.nm 3) (.cons (.iff (.cmp .lt (.bin .add (.var 3) (.cst (.int 1))) (.prm .len (.cons (.var 0) .nil))) (.cons (.asg (.nm 4) (.cal f__law_minus (.cons (.var 4) (.cons (.cal f__law_times (.cons (.ix (.var 1) (.var 3)) (.cons (.cal f__law_minus (.cons (.ix (.var 0) (.bin .add (.var 3) (.cst (.int 1)))) (.cons (.ix (.var 0) (.var 3)) .nil))) .nil))) .nil)))) .nil) .nil) (.cons (.asg (.nm 5) (.bin .add (.lst (.cons (.tup (.cons (.ix (.var 0) (.var 3)) (.cons (.var 4) (.cons (.ix (.var 1) (.var 3)) .nil)))) .nil)) (.var 5))) .nil))
      (rangeV (i : Int) (-1) (i + 1)) [.val (.lst (zs.map fun z => pQ z.1)), .val (.lst (zs.map fun z => pQ z.2)), v2, s3, .val (pQ (if i + 1 < zs.length then kn a (zs.drop (i + 1)) else kn a (zs.drop i))), .val (.lst ((ft a (zs.drop (i + 1))).map pT))] = pure (.nx [.val (.lst (zs.map fun z => pQ z.1)), .val (.lst (zs.map fun z => pQ z.2)), v2, r3, r4, .val (.lst ((ft a zs).map pT))])
  | i, s3, hi => by
    have hsl : (21 : Nat) ≤ sizeLine := by decide
    have ix1 : ∀ j (hj : j < zs.length), ixV (.lst (zs.map fun z => pQ z.1)) (.int (j : Nat)) = some (pQ zs[j].1) := fun j hj => by
      rw [ixV_nat_lst]; simp [hj]
    have ix2 : ∀ j (hj : j < zs.length), ixV (.lst (zs.map fun z => pQ z.2)) (.int (j : Nat)) = some (pQ zs[j].2) := fun j hj => by
      rw [ixV_nat_lst]; simp [hj]
    have hdi : zs.drop i = zs[i] :: zs.drop (i + 1) := List.drop_eq_getElem_cons hi
    have body : evB T call (.cons (.iff (.cmp .lt (.bin .add (.var 3) (.cst (.int 1))) (.prm .len (.cons (.var 0) .nil))) (.cons (.asg (.nm 4) (.cal f__law_minus (.cons (.var 4) (.cons (.cal f__law_times (.cons (.ix (.var 1) (.var 3)) (.cons (.cal f__law_minus (.cons (.ix (.var 0) (.bin .add (.var 3) (.cst (.int 1)))) (.cons (.ix (.var 0) (.var 3)) .nil))) .nil))) .nil)))) .nil) .nil) (.cons (.asg (.nm 5) (.bin .add (.lst (.cons (.tup (.cons (.ix (.var 0) (.var 3)) (.cons (.var 4) (.cons (.ix (.var 1) (.var 3)) .nil)))) .nil)) (.var 5))) .nil))
        [.val (.lst (zs.map fun z => pQ z.1)), .val (.lst (zs.map fun z => pQ z.2)), v2, .val (.int (i : Nat)), .val (pQ (if i + 1 < zs.length then kn a (zs.drop (i + 1)) else kn a (zs.drop i))), .val (.lst ((ft a (zs.drop (i + 1))).map pT))] = pure (.nx [.val (.lst (zs.map fun z => pQ z.1)), .val (.lst (zs.map fun z => pQ z.2)), v2, .val (.int (i : Nat)), .val (pQ (kn a (zs.drop i))), .val (.lst ((ft a (zs.drop i)).map pT))]) := by
      have hk : (ft a (zs.drop i)).map pT = .tup [pQ zs[i].1, pQ (kn a (zs.drop i)), pQ zs[i].2] :: (ft a (zs.drop (i + 1))).map pT := by
        by_cases hl : i + 1 < zs.length
        · have e := drop_two hl
          have e1 : zs.drop (i + 1) = zs[i + 1] :: zs.drop (i + 2) := List.drop_eq_getElem_cons hl
          rw [e, e1, ft_cons, kn_cons]
          rfl
        · have e1 : zs.drop (i + 1) = [] := List.drop_eq_nil_of_le (by omega)
          rw [hdi, e1]
          rfl
      have hb : binV .add (.lst [.tup [pQ zs[i].1, pQ (kn a (zs.drop i)), pQ zs[i].2]]) (.lst ((ft a (zs.drop (i + 1))).map pT)) = some (.lst ((ft a (zs.drop i)).map pT)) := by
        rw [hk]
        refine binV_lsts ?_
        rw [List.length_map, ft_len, List.length_drop, List.length_singleton]
        have := hz.len
        omega
      have x1 := ix1 i hi
      have x2 := ix2 i hi
      by_cases hl : i + 1 < zs.length
      · have x3 := ix1 (i + 1) hl
        have c : ((i : Int) + 1 < (zs.map fun z => pQ z.1).length) := by rw [List.length_map]; omega
        have x3' : ixV (.lst (zs.map fun z => pQ z.1)) (.int ((i : Int) + 1)) = some (pQ zs[i + 1].1) := x3
        have e := drop_two hl
        have e1 : zs.drop (i + 1) = zs[i + 1] :: zs.drop (i + 2) := List.drop_eq_getElem_cons hl
        have hzd := hz.drop i
        rw [e] at hzd
        have d := hzd.df (zs[i], zs[i + 1]) (List.mem_cons_self ..)
        have s0 := hzd.sz zs[i] (List.mem_cons_self ..)
        have s1 := hzd.sz zs[i + 1] (List.mem_cons_of_mem _ (List.mem_cons_self ..))
        have ks := kn_sz ha (zs.drop (i + 2)) zs[i + 1] hzd.tail
        have kl := hzd.tail.len
        rw [List.length_cons] at kl
        rw [← e1] at ks
        have kn_e : kn a (zs.drop i) = kn a (zs.drop (i + 1)) - zs[i].2 * (zs[i + 1].1 - zs[i].1) := by
          rw [e, kn_cons, ← e1]
        have k1 := h1 zs[i + 1].1 zs[i].1 (s1.1.mono (by decide)) (s0.1.mono (by decide))
        have k2 := h3 zs[i].2 (zs[i + 1].1 - zs[i].1) (s0.2.mono (by decide)) (d.mono (by decide))
        have k3 := h1 (kn a (zs.drop (i + 1))) (zs[i].2 * (zs[i + 1].1 - zs[i].1)) (ks.mono (by omega)) ((s0.2.mul d).mono (by decide))
        rw [← kn_e] at k3
        rw [if_pos hl]
        generalize kn a (zs.drop (i + 1)) = kk at *
        generalize kn a (zs.drop i) = kk2 at *
        generalize (ft a (zs.drop (i + 1))).map pT = F1 at *
        generalize (ft a (zs.drop i)).map pT = F2 at *
        generalize (zs.map fun z => pQ z.1) = V1 at *
        generalize (zs.map fun z => pQ z.2) = V2 at *
        generalize pQ zs[i].1 = q1 at *
        generalize pQ zs[i + 1].1 = q2 at *
        generalize pQ zs[i].2 = q3 at *
        simp [x1, x2, x3', c, k1, k2, k3, hb]
      · have c : ¬ ((i : Int) + 1 < (zs.map fun z => pQ z.1).length) := by rw [List.length_map]; omega
        rw [if_neg hl]
        generalize kn a (zs.drop i) = kk2 at *
        generalize (ft a (zs.drop (i + 1))).map pT = F1 at *
        generalize (ft a (zs.drop i)).map pT = F2 at *
        generalize (zs.map fun z => pQ z.1) = V1 at *
        generalize (zs.map fun z => pQ z.2) = V2 at *
        generalize pQ zs[i].1 = q1 at *
        generalize pQ zs[i].2 = q3 at *
        simp [x1, x2, c, hb]
    show ∃ r3 r4, forB T call (.nm 3) _ (.int (i : Nat) :: rangeV ((i : Int) + -1) (-1) i) _ = _
    rw [fs_nx (by rfl) body]
    cases i with
    | zero => exact ⟨_, _, rfl⟩
    | succ i =>
      obtain ⟨r3, r4, e⟩ := top_loop h1 h3 zs a hz ha v2 i (.val (.int ((i + 1 : Nat) : Int))) (by omega)
      refine ⟨r3, r4, ?_⟩
      rw [if_pos hi] at e
      have : ((i + 1 : Nat) : Int) + -1 = (i : Int) := by omega
      rw [this]
      exact e
theorem ok__law_from_top {f__law_minus f__law_plus f__law_times : Nat} (h1 : Sp_sub (call f__law_minus)) (h2 : Sp_add (call f__law_plus)) (h3 : Sp_mul (call f__law_times)) : Sp_from_top (run T call (d__law_from_top f__law_minus f__law_plus f__law_times)) := by
  intro zs a hne hz ha
  have hpos : 0 < zs.length := List.length_pos_iff.mpr hne
  have hlast : zs.getLast hne = zs[zs.length - 1] := List.getLast_eq_getElem hne
  have x1 : ixV (.lst (zs.map fun z => pQ z.1)) (.int (-1)) = some (pQ (zs.getLast hne).1) := by
    rw [ixV_last_lst (by simpa using hne), List.getLast_map]
  have s0 := hz.sz _ (List.getLast_mem hne)
  have k1 := h2 (zs.getLast hne).1 a (s0.1.mono (by decide)) (ha.mono (by decide))
  have hd : zs.drop (zs.length - 1) = [zs.getLast hne] := by
    rw [List.drop_eq_getElem_cons (by omega), hlast, List.drop_eq_nil_of_le (by omega)]
  have kn0 : kn a (zs.drop (zs.length - 1)) = (zs.getLast hne).1 + a := by rw [hd]; rfl
  obtain ⟨r3, r4, e⟩ := top_loop (T := T) h1 h3 zs a hz ha (.val (pQ a)) (zs.length - 1) .non (by omega)
  have e1 : zs.length - 1 + 1 = zs.length := by omega
  rw [if_neg (by omega), kn0, e1, List.drop_eq_nil_of_le (Nat.le_refl _)] at e
  have e2 : ((zs.length - 1 : Nat) : Int) = (zs.length : Int) - 1 := by omega
  rw [e2] at e
  have sm : small ((zs.length : Int) - 1) = true := by
    unfold small
    rw [Bool.and_eq_true, decide_eq_true_eq, decide_eq_true_eq]
    have := hz.len
    omega
  have tn : ((zs.length : Int) - 1 - -1).toNat = zs.length := by omega
  have sm1 : small (-1) = true := by decide
  unfold run d__law_from_top c__law_from_top
  have ln : (zs.map fun z => pQ z.1).length = zs.length := List.length_map ..
  have ee : e3 (ft a zs) = .tup ((ft a zs).map pT) := rfl
  rw [ee]
  have nil : (ft a []).map pT = [] := rfl
  rw [nil] at e
  generalize (ft a zs).map pT = F at *
  generalize (zs.map fun z => pQ z.1) = V1 at *
  generalize (zs.map fun z => pQ z.2) = V2 at *
  generalize pQ (zs.getLast hne).1 = q1 at *
  generalize pQ ((zs.getLast hne).1 + a) = q2 at *
  simp [x1, k1, ln, sm, sm1, tn, e]
end
end BA.Li
/-! Pl11 -/
set_option Elab.async false
set_option linter.all false
set_option maxRecDepth 100000
set_option maxHeartbeats 1000000
/-! Pl11: drawn profiles. -/
namespace BA.Li
open PySem L2 BA
/-- the kept that are drawn from -/
def someQ : List Rat := [0, ⟨1, 1000, by decide, by decide⟩, ⟨1, 10, by decide, by decide⟩, ⟨1, 5, by decide, by decide⟩, ⟨1, 4, by decide, by decide⟩, ⟨1, 3, by decide, by decide⟩, ⟨1, 2, by decide, by decide⟩, ⟨3, 5, by decide, by decide⟩, ⟨2, 3, by decide, by decide⟩, ⟨3, 4, by decide, by decide⟩, ⟨9, 10, by decide, by decide⟩, ⟨999, 1000, by decide, by decide⟩]
def someV : List PV := [.tup [.int 0, .int 1], .tup [.int 1, .int 1000], .tup [.int 1, .int 10], .tup [.int 1, .int 5], .tup [.int 1, .int 4], .tup [.int 1, .int 3], .tup [.int 1, .int 2], .tup [.int 3, .int 5], .tup [.int 2, .int 3], .tup [.int 3, .int 4], .tup [.int 9, .int 10], .tup [.int 999, .int 1000]]
theorem someV_eq : someV = someQ.map pQ := rfl
def sq (n : Nat) : Rat := someQ.getD n 0
theorem sq_lt {i j : Nat} (h : i < j) (hj : j < 12) : sq i < sq j := by
  have : ∀ i : _root_.Fin 12, ∀ j : _root_.Fin 12, i.val < j.val → sq i.val < sq j.val := by decide +kernel
  exact this ⟨i, by omega⟩ ⟨j, hj⟩ h
theorem sq_ok {i : Nat} (h : i < 12) : 0 ≤ sq i ∧ sq i < 1 ∧ (sq i).num.natAbs < 2 ^ 20 ∧ (sq i).den < 2 ^ 20 := by
  have : ∀ i : _root_.Fin 12, 0 ≤ sq i.val ∧ sq i.val < 1 ∧ (sq i.val).num.natAbs < 2 ^ 20 ∧ (sq i.val).den < 2 ^ 20 := by decide +kernel
  exact this ⟨i, h⟩
theorem sq_at {i : Nat} (h : i < 12) : someV[i]? = some (pQ (sq i)) := by
  rw [someV_eq, List.getElem?_map]
  have : someQ[i]? = some (sq i) := by
    unfold sq
    rw [List.getD_eq_getElem?_getD, List.getElem?_eq_getElem (by simpa [someQ] using h)]
    rfl
  rw [this]
  rfl
/-- strictly ascending -/
def up (qs : List Nat) : Prop := qs.Pairwise (· < ·)
theorem perm_ints {ys : List PV} {n : Nat} (h : ys.Perm ((List.range n).map fun k => .int (k : Nat))) : ∃ ns : List Nat, ys = ns.map (fun k => .int (k : Nat)) ∧ ns.Perm (List.range n) := by
  let g : PV → Nat := fun v => match v with
    | .int i => i.toNat
    | _ => 0
  refine ⟨ys.map g, ?_, ?_⟩
  · rw [List.map_map]
    conv => lhs; rw [← List.map_id ys]
    refine List.map_congr_left fun y hy => ?_
    obtain ⟨k, _, rfl⟩ := List.mem_map.mp (h.mem_iff.mp hy)
    show PV.int (k : Nat) = PV.int (((k : Int).toNat : Nat) : Int)
    rw [Int.toNat_natCast]
  · have := h.map g
    rw [List.map_map] at this
    have e : (g ∘ fun k : Nat => PV.int (k : Int)) = id := by
      funext k
      show (k : Int).toNat = k
      exact Int.toNat_natCast k
    rw [e, List.map_id] at this
    exact this
/-- sorted numbers of unlike ones -/
theorem sorted_up {ns : List Nat} (h : ns.Nodup) (hb : ∀ n ∈ ns, n < 12) : ∃ qs : List Nat, sortI (ns.map fun k : Nat => (k : Int)) = qs.map (fun k : Nat => (k : Int)) ∧ up qs ∧ qs.length = ns.length ∧ ∀ q ∈ qs, q < 12 := by
  have p := sortI_perm (ns.map fun k : Nat => (k : Int))
  have s := sortI_sorted (ns.map fun k : Nat => (k : Int))
  generalize sortI (ns.map fun k : Nat => (k : Int)) = ms at *
  have em : ms = (ms.map Int.toNat).map fun k : Nat => (k : Int) := by
    rw [List.map_map]
    conv => lhs; rw [← List.map_id ms]
    refine List.map_congr_left fun y hy => ?_
    obtain ⟨k, _, rfl⟩ := List.mem_map.mp (p.mem_iff.mp hy)
    show (k : Int) = (((k : Int).toNat : Nat) : Int)
    rw [Int.toNat_natCast]
  have pq : (ms.map Int.toNat).Perm ns := by
    have := p.map Int.toNat
    rw [List.map_map] at this
    have e : (Int.toNat ∘ fun k : Nat => (k : Int)) = id := by
      funext k
      exact Int.toNat_natCast k
    rw [e, List.map_id] at this
    exact this
  refine ⟨ms.map Int.toNat, em, ?_, pq.length_eq, fun q hq => hb q (pq.mem_iff.mp hq)⟩
  have nd : (ms.map Int.toNat).Nodup := pq.nodup_iff.mpr h
  rw [em] at s
  rw [List.pairwise_map] at s
  unfold up
  exact (s.and nd).imp fun {a b} hab => by
    have := hab.1
    have := hab.2
    omega
theorem cut_to {α : Type} (xs : List α) (n : Nat) : cut xs none (some (n : Int)) = xs.take n := by
  unfold cut
  rw [HT.sIx_none, HT.sIx_nat, List.drop_zero, Nat.sub_zero]
  by_cases h : n ≤ xs.length
  · rw [Nat.min_eq_left h]
  · rw [Nat.min_eq_right (by omega), List.take_of_length_le (Nat.le_refl _), List.take_of_length_le (by omega)]
section
variable {T : Tab} {call : Nat → List PV → M PV}
/-- offers that rise -/
structure Off (i : Nat) (os : List Rat) : Prop where
  len : os.length = i + 1
  zero : os[0]? = some 0
  rise : ∀ j (h : j + 1 < os.length), os[j] < os[j + 1] ∧ Sz 20 (os[j + 1] - os[j])
  sz : ∀ j (h : j < os.length), Sz (1 + 6 * j) os[j]
theorem Off.snoc {i : Nat} {os : List Rat} (h : Off i os) {st : Rat} (h0 : 0 < st) (h5 : Sz 5 st) (hne : os ≠ []) : Off (i + 1) (os ++ [os.getLast hne + st]) := by
  have hl := h.len
  have gl : os.getLast hne = os[i] := by
    rw [List.getLast_eq_getElem]
    congr 1
    omega
  refine ⟨by rw [List.length_append, List.length_singleton, hl], ?_, fun j hj => ?_, fun j hj => ?_⟩
  · rw [List.getElem?_append_left (by omega)]
    exact h.zero
  · rw [List.length_append, List.length_singleton] at hj
    by_cases c : j + 1 < os.length
    · rw [List.getElem_append_left c, List.getElem_append_left (by omega)]
      exact h.rise j c
    · have ej : j = i := by omega
      subst ej
      rw [List.getElem_append_right (show os.length ≤ j + 1 by omega), List.getElem_append_left (show j < os.length by omega)]
      simp only [hl, Nat.sub_self, List.getElem_cons_zero]
      rw [gl]
      constructor
      · have := (Rat.add_lt_add_left (c := os[j])).mpr h0
        rw [Rat.add_zero] at this
        exact this
      · have e : os[j] + st - os[j] = st := by grind
        rw [e]
        exact h5.mono (by decide)
  · rw [List.length_append, List.length_singleton] at hj
    by_cases c : j < os.length
    · rw [List.getElem_append_left c]
      exact h.sz j c
    · have ej : j = i + 1 := by omega
      subst ej
      rw [List.getElem_append_right (show os.length ≤ i + 1 by omega)]
      simp only [hl, Nat.sub_self, List.getElem_cons_zero]
      rw [gl]
      exact ((h.sz i (by omega)).add h5).mono (by omega)
theorem zip_drop {os ks : List Rat} : ∀ {n : Nat}, (∀ j (h : j + 1 < os.length), os[j] < os[j + 1]) → (∀ j (h : j + 1 < ks.length), ks[j] < ks[j + 1]) → asc (os.zip ks) := by
  intro n
  induction os generalizing ks with
  | nil => intro _ _; trivial
  | cons o os ih =>
    intro h1 h2
    cases ks with
    | nil => trivial
    | cons k ks =>
      cases os with
      | nil => trivial
      | cons o' os => cases ks with
        | nil => trivial
        | cons k' ks =>
          refine ⟨⟨h1 0 (by simp), h2 0 (by simp)⟩, ih (ks := k' :: ks) (fun j hj => ?_) fun j hj => ?_⟩
          · exact h1 (j + 1) (by simpa using hj)
          · exact h2 (j + 1) (by simpa using hj)
structure Tris (xs : List Tri) : Prop where
  sz : ∀ t ∈ xs, SzT 900 t
  p : isP xs = true
  len : xs.length ≤ 20
def Sp_triples (f : List PV → M PV) : Prop := ∀ m : Nat, 0 < m → m ≤ 9 → Sure 60 (f [.drw, .int m]) fun v => ∃ xs, v = e3 xs ∧ Tris xs
theorem pos_ratio {a b : Int} (ha : 0 < a) (hb : 0 < b) : 0 < Rat.divInt a b := by
  have h : 0 ≤ Rat.divInt a b := Rat.divInt_nonneg (by omega) (by omega)
  have h2 : Rat.divInt a b ≠ 0 := by
    intro z
    have := congrArg Rat.num z
    rw [← gdiv_num a b (by omega)] at this
    have e : gdiv a b = (Int.gcd a b : Int) := if_pos hb
    rw [e, Int.fdiv_eq_ediv_of_dvd (Int.gcd_dvd_left ..)] at this
    have h3 : (0 : Rat).num = 0 := rfl
    rw [h3] at this
    have h4 := Int.ediv_mul_cancel (Int.gcd_dvd_left a b)
    rw [this] at h4
    omega
  exact Rat.lt_of_le_of_ne h (Ne.symm h2)
end
end BA.Li
/-! Pl12 -/
set_option Elab.async false
set_option linter.all false
set_option maxRecDepth 100000
set_option maxHeartbeats 1000000
/-! Pl12: drawn profiles, walked. -/
namespace BA.Li
open PySem L2 BA
section
variable {T : Tab} {call : Nat → List PV → M PV}
theorem range_ints (n : Nat) : ∀ lo : Int, rangeV lo 1 n = (List.range n).map fun k : Nat => PV.int (lo + k) := by
  induction n with
  | zero => intro lo; rfl
  | succ n ih =>
    intro lo
    show PV.int lo :: rangeV (lo + 1) 1 n = _
    rw [ih, List.range_succ_eq_map, List.map_cons, List.map_map]
    congr 1
    · simp
    · refine List.map_congr_left fun k _ => ?_
      show PV.int (lo + 1 + k) = PV.int (lo + ((k + 1 : Nat) : Int))
      congr 1
      omega
theorem seven {v : PV} (h : v ∈ [PV.int 1, PV.int 1, PV.int 2, PV.int 7]) : ∃ b : Int, v = .int b ∧ 0 < b ∧ b < 8 := by
  simp only [List.mem_cons, List.mem_nil_iff, or_false] at h
  rcases h with rfl | rfl | rfl | rfl <;> exact ⟨_, rfl, by decide, by decide⟩
theorem aheads {v : PV} (h : v ∈ [PV.tup [.int 0, .int 1], PV.tup [.int 0, .int 1], PV.tup [.int 1, .int 2], PV.tup [.int 7, .int 1]]) : ∃ a : Rat, v = pQ a ∧ 0 ≤ a ∧ Sz 20 a := by
  simp only [List.mem_cons, List.mem_nil_iff, or_false] at h
  rcases h with rfl | rfl | rfl | rfl
  · exact ⟨0, rfl, by decide, by constructor <;> decide⟩
  · exact ⟨0, rfl, by decide, by constructor <;> decide⟩
  · exact ⟨⟨1, 2, by decide, by decide⟩, rfl, by decide, by constructor <;> decide⟩
  · exact ⟨7, rfl, by decide, by constructor <;> decide⟩
theorem ok__law_triples {f__law_from_top f__law_pick f__law_plus f__law_ratio f__law_shuffled f__law_take : Nat} (h1 : Sp_from_top (call f__law_from_top)) (h2 : Sp_pick (call f__law_pick)) (h3 : Sp_add (call f__law_plus)) (h4 : Sp_ratio_of (call f__law_ratio)) (h5 : Sp_shuffled (call f__law_shuffled)) (h6 : Sp_take (call f__law_take)) :
    Sp_triples (run T call (d__law_triples f__law_from_top f__law_pick f__law_plus f__law_ratio f__law_shuffled f__law_take)) := by
  intro m hm hm9
  refine Sure.run rfl ?_
  unfold d__law_triples c__law_triples
  -- some
  refine Sure.le (c := 0 + (1 + (12 + (0 + (16 + (0 + 1)))))) ?_ (by decide)
  refine Sure.seq (Sure.of (a := .nx [.val .drw, .val (.int m), .val (.lst someV), .non, .non, .non, .non, .non, .non]) (by simp [someV]) ?_)
  -- many
  refine Sure.seq ?_
  have e1 : evS T call (.asg (.nm 3) (.cal f__law_take (.cons (.var 0) (.cons (.var 1) .nil)))) [.val .drw, .val (.int m), .val (.lst someV), .non, .non, .non, .non, .non, .non] = call f__law_take [.drw, .int m] >>= fun v => pure (.nx [.val .drw, .val (.int m), .val (.lst someV), .val v, .non, .non, .non, .non, .non]) := by simp
  rw [e1]
  refine Sure.bind (c := 1) (d := 0) (h6 m hm (by omega)) fun v hv => Sure.of rfl ?_
  obtain ⟨n, rfl, hn⟩ := hv
  -- places
  refine Sure.seq ?_
  have e2 : evS T call (.asg (.nm 4) (.prm .sorted (.cons (.slc (.cal f__law_shuffled (.cons (.var 0) (.cons (.lrng (.prm .len (.cons (.var 2) .nil))) .nil))) .nil (.var 3)) .nil))) [.val .drw, .val (.int m), .val (.lst someV), .val (.int n), .non, .non, .non, .non, .non] = call f__law_shuffled [.drw, .lst ((List.range 12).map fun k : Nat => PV.int (k : Int))] >>= fun v => M.lift (slcV v none (some n)) >>= fun x => M.lift (primV .sorted [x]) >>= fun y => pure (.nx [.val .drw, .val (.int m), .val (.lst someV), .val (.int n), .val y, .non, .non, .non, .non]) := by
    have l : ((someV.length : Nat) : Int) = 12 := by decide
    have r : rangeV 0 1 12 = (List.range 12).map fun k : Nat => PV.int (k : Int) := rfl
    have s : small 12 = true := by decide
    generalize ((List.range 12).map fun k : Nat => PV.int (k : Int)) = R12 at *
    simp [l, s, r, IE.isNil]
  rw [e2]
  refine Sure.bind (c := 12) (d := 0) (h5 ((List.range 12).map fun k : Nat => PV.int (k : Int)) (by simp) (fun x hx => by obtain ⟨k, _, rfl⟩ := List.mem_map.mp hx; rfl)) fun v hv => ?_
  obtain ⟨ys, rfl, py⟩ := hv
  obtain ⟨ns, rfl, pn⟩ := perm_ints py
  have e3 : slcV (.lst (ns.map fun k : Nat => PV.int (k : Int))) none (some n) = some (.lst (((ns.take n).map fun k : Nat => (k : Int)).map PV.int)) := by
    show some (PV.lst (cut _ none (some (n : Int)))) = _
    rw [cut_to, ← List.map_take, List.map_map]
    rfl
  have nd : (ns.take n).Nodup := ((pn.nodup_iff.mpr List.nodup_range).sublist (List.take_sublist n ns))
  have nb : ∀ k ∈ ns.take n, k < 12 := fun k hk => List.mem_range.mp (pn.mem_iff.mp (List.mem_of_mem_take hk))
  obtain ⟨qs, eq, uq, lq, bq⟩ := sorted_up nd nb
  have ln : (ns.take n).length = n := by
    rw [List.length_take, pn.length_eq, List.length_range]
    omega
  have e4 : primV .sorted [.lst (((ns.take n).map fun k : Nat => (k : Int)).map PV.int)] = some (.lst (qs.map fun k : Nat => PV.int (k : Int))) := by
    show (allInt _).map _ = _
    rw [allInt_map, Option.map_some, eq, List.map_map]
    rfl
  rw [e3, M.lift_some, M.pure_bind, e4, M.lift_some, M.pure_bind]
  refine Sure.of rfl ?_
  -- kept, offers
  have hq : ∀ q ∈ qs, q < 12 := bq
  have lqn : qs.length = n := by rw [lq, ln]
  have e5 : cmpB T call (.nm 8) .nil (.ix (.var 2) (.var 8)) (qs.map fun k : Nat => PV.int (k : Int)) [.val .drw, .val (.int m), .val (.lst someV), .val (.int n), .val (.lst (qs.map fun k : Nat => PV.int (k : Int))), .non, .non, .non, .non] = pure (.lst (qs.map fun k => pQ (sq k))) := by
    generalize hS : PV.lst (qs.map fun k : Nat => PV.int (k : Int)) = pl
    refine cm_map (e := fun k : Nat => PV.int (k : Int)) (E := fun k => [.val .drw, .val (.int m), .val (.lst someV), .val (.int n), .val pl, .non, .non, .non, .val (.int (k : Nat))]) (fun k _ => by simp [IT.slots, wipeE]) fun k hk => ?_
    have := ixV_nat_lst someV k
    rw [sq_at (hq k hk)] at this
    simp [this]
  have kept_e : (qs.map fun k => pQ (sq k)) ++ [PV.tup [.int 1, .int 1]] = (qs.map sq ++ [1]).map pQ := by
    rw [List.map_append, List.map_map]
    rfl
  have e6 : binV .add (.lst (qs.map fun k => pQ (sq k))) (.lst [.tup [.int 1, .int 1]]) = some (.lst ((qs.map sq ++ [1]).map pQ)) := by
    rw [← kept_e]
    refine binV_lsts ?_
    have : (100 : Nat) ≤ sizeLine := by decide
    rw [List.length_map]
    simp
    omega
  refine Sure.seq (Sure.of (a := .nx [.val .drw, .val (.int m), .val (.lst someV), .val (.int n), .val (.lst (qs.map fun k : Nat => PV.int (k : Int))), .non, .val (.lst ((qs.map sq ++ [1]).map pQ)), .own (.lst [pQ 0]), .non]) ?_ ?_)
  · generalize (qs.map sq ++ [1]).map pQ = K at *
    generalize (qs.map fun k => pQ (sq k)) = K2 at *
    generalize (qs.map fun k : Nat => PV.int (k : Int)) = K3 at *
    simp [e5, e6]
    rfl
  generalize (qs.map fun k : Nat => PV.int (k : Int)) = K3 at *
  -- the offers
  refine Sure.seq ?_
  have sn : small (n : Int) = true := by
    unfold small
    rw [Bool.and_eq_true, decide_eq_true_eq, decide_eq_true_eq]
    omega
  generalize hKV : (qs.map sq ++ [1]).map pQ = KV
  have e7 : evI T call (.rng1 (.var 3)) [.val .drw, .val (.int m), .val (.lst someV), .val (.int n), .val (.lst K3), .non, .val (.lst KV), .own (.lst [pQ 0]), .non] = pure ((List.range n).map fun k : Nat => PV.int (0 + k)) := by
    rw [← range_ints]
    simp [sn]
  rw [qS_forB, e7, M.pure_bind]
  refine (Sure.le (Sure.forB (c := 2) (I := fun i S => ∃ s5 os, S = [.val .drw, .val (.int m), .val (.lst someV), .val (.int n), .val (.lst K3), s5, .val (.lst KV), .own (.lst (os.map pQ)), .non] ∧ Off i os) (R := fun _ => False) ⟨_, [0], rfl, ⟨rfl, rfl, fun j hj => by simp at hj, fun j hj => by
    have : j = 0 := by simpa using hj
    subst this
    exact (show Sz 1 (0 : Rat) from by constructor <;> decide)⟩⟩ fun i x S hx hi => ?_) (by simp; omega)).imp fun f hf => ?_
  · obtain ⟨s5, os, rfl, ho⟩ := hi
    have hil : i < n := by
      have := (List.getElem?_eq_some_iff.mp hx).1
      simpa using this
    refine ⟨[.val .drw, .val (.int m), .val (.lst someV), .val (.int n), .val (.lst K3), .val x, .val (.lst KV), .own (.lst (os.map pQ)), .non], by simp, ?_⟩
    have hne : os ≠ [] := by
      intro z
      have := ho.len
      rw [z] at this
      cases this
    have hl : (os.map pQ).length < sizeLine := by
      have : (100 : Nat) < sizeLine := by decide
      rw [List.length_map, ho.len]
      omega
    have x1 : ixV (.lst (os.map pQ)) (.int (-1)) = some (pQ (os.getLast hne)) := by
      rw [ixV_last_lst (by simpa using hne), List.getLast_map]
    refine Sure.seq (c := 2) (d := 0) ?_
    have e8 : evS T call (.app 7 (.cal f__law_plus (.cons (.ix (.bvar 7) (.neg (.cst (.int 1)))) (.cons (.cal f__law_ratio (.cons (.bin .add (.cst (.int 1)) (.cal f__law_take (.cons (.var 0) (.cons (.cst (.int 30)) .nil)))) (.cons (.cal f__law_pick (.cons (.var 0) (.cons (.lst (.cons (.cst (.int 1)) (.cons (.cst (.int 1)) (.cons (.cst (.int 2)) (.cons (.cst (.int 7)) .nil))))) .nil))) .nil))) .nil)))) [.val .drw, .val (.int m), .val (.lst someV), .val (.int n), .val (.lst K3), .val x, .val (.lst KV), .own (.lst (os.map pQ)), .non]
      = call f__law_take [.drw, .int (30 : Nat)] >>= fun r => M.lift (binV .add (.int 1) r) >>= fun y => call f__law_pick [.drw, .lst [.int 1, .int 1, .int 2, .int 7]] >>= fun b => call f__law_ratio [y, b] >>= fun st => call f__law_plus [pQ (os.getLast hne), st] >>= fun v => pure (.nx [.val .drw, .val (.int m), .val (.lst someV), .val (.int n), .val (.lst K3), .val x, .val (.lst KV), .own (.lst (os.map pQ ++ [v])), .non]) := by
      generalize os.map pQ = O at *
      simp [x1, hl]
    rw [e8]
    refine Sure.bind (c := 1) (d := 1) (h6 30 (by decide) (by decide)) fun v hv => ?_
    obtain ⟨r, rfl, hr⟩ := hv
    rw [binV_add, M.lift_some, M.pure_bind]
    refine Sure.bind (c := 1) (d := 0) (h2 [.int 1, .int 1, .int 2, .int 7] (by simp) (by decide)).1 fun v hv => ?_
    obtain ⟨b, rfl, hb0, hb8⟩ := seven hv
    rw [h4 (1 + r) b ⟨by omega, Nat.lt_of_lt_of_le (show b.natAbs < 2 ^ 4 by omega) (Nat.pow_le_pow_right (by decide) (by decide))⟩, M.pure_bind]
    have s5' : Sz 5 (Rat.divInt (1 + r) b) := sz_divInt (by omega) (by omega) (by omega)
    have so := ho.sz i (by rw [ho.len]; omega)
    have gl : os.getLast hne = os[i]'(by rw [ho.len]; omega) := by
      rw [List.getLast_eq_getElem]
      congr 1
      have := ho.len
      omega
    rw [← gl] at so
    rw [h3 _ _ (so.mono (by omega)) (s5'.mono (by decide)), M.pure_bind]
    refine Sure.of rfl (Sure.of rfl ⟨.val x, os ++ [os.getLast hne + Rat.divInt (1 + r) b], ?_, ho.snoc (pos_ratio (by omega) hb0) s5' hne⟩)
    rw [List.map_append]
    rfl
  · cases f with
    | rt v => exact hf.elim
    | bk v => exact hf.elim
    | ct v => exact hf.elim
    | nx S' =>
      obtain ⟨s5, os, rfl, ho⟩ := hf
      rw [List.length_map, List.length_range] at ho
      refine Sure.seq (c := 0) (Sure.of (a := .nx [.val .drw, .val (.int m), .val (.lst someV), .val (.int n), .val (.lst K3), s5, .val (.lst KV), .val (.lst (os.map pQ)), .non]) (by simp) ?_)
      refine Sure.seq (c := 1) (d := 0) ?_
      have e9 : evS T call (.ret (.cal f__law_from_top (.cons (.var 7) (.cons (.var 6) (.cons (.cal f__law_pick (.cons (.var 0) (.cons (.lst (.cons (.tup (.cons (.cst (.int 0)) (.cons (.cst (.int 1)) .nil))) (.cons (.tup (.cons (.cst (.int 0)) (.cons (.cst (.int 1)) .nil))) (.cons (.tup (.cons (.cst (.int 1)) (.cons (.cst (.int 2)) .nil))) (.cons (.tup (.cons (.cst (.int 7)) (.cons (.cst (.int 1)) .nil))) .nil))))) .nil))) .nil))))) [.val .drw, .val (.int m), .val (.lst someV), .val (.int n), .val (.lst K3), s5, .val (.lst KV), .val (.lst (os.map pQ)), .non]
        = call f__law_pick [.drw, .lst [PV.tup [.int 0, .int 1], PV.tup [.int 0, .int 1], PV.tup [.int 1, .int 2], PV.tup [.int 7, .int 1]]] >>= fun a => call f__law_from_top [.lst (os.map pQ), .lst KV, a] >>= fun v => pure (.rt v) := by
        generalize os.map pQ = O at *
        simp
      rw [e9]
      refine Sure.bind (c := 1) (d := 0) (h2 _ (by simp) (by decide)).1 fun v hv => ?_
      obtain ⟨a, rfl, ha0, ha⟩ := aheads hv
      obtain ⟨ks, hks⟩ : ∃ ks, ks = qs.map sq ++ [1] := ⟨_, rfl⟩
      rw [← hks] at hKV
      have lk : ks.length = n + 1 := by rw [hks, List.length_append, List.length_map, lqn]; rfl
      have lo := ho.len
      have z1 : (os.zip ks).map (fun z => pQ z.1) = os.map pQ := by
        have q : (fun z : Rat × Rat => pQ z.1) = pQ ∘ Prod.fst := rfl
        rw [q, ← List.map_map, List.map_fst_zip (by omega)]
      have z2 : (os.zip ks).map (fun z => pQ z.2) = KV := by
        have q : (fun z : Rat × Rat => pQ z.2) = pQ ∘ Prod.snd := rfl
        rw [← hKV, q, ← List.map_map, List.map_snd_zip (by omega)]
      have kat : ∀ j (h : j < ks.length), (j < n → ∃ h' : j < qs.length, ks[j] = sq qs[j] ∧ qs[j] < 12) ∧ (j = n → ks[j] = 1) := fun j h => by
        constructor
        · intro hj
          refine ⟨by omega, ?_, hq _ (List.getElem_mem _)⟩
          subst hks
          rw [List.getElem_append_left (by rw [List.length_map]; omega), List.getElem_map]
        · intro hj
          subst hks
          rw [List.getElem_append_right (by rw [List.length_map]; omega)]
          simp
      have krise : ∀ j (h : j + 1 < ks.length), ks[j] < ks[j + 1] := fun j h => by
        obtain ⟨h', e, hb⟩ := (kat j (by omega)).1 (by omega)
        rw [e]
        by_cases c : j + 1 < n
        · obtain ⟨h'', e', hb'⟩ := (kat (j + 1) h).1 c
          rw [e']
          exact sq_lt (List.pairwise_iff_getElem.mp uq j (j + 1) h' h'' (by omega)) hb'
        · rw [(kat (j + 1) h).2 (by omega)]
          exact (sq_ok hb).2.1
      have ksz : ∀ j (h : j < ks.length), Sz 20 ks[j] := fun j h => by
        by_cases c : j < n
        · obtain ⟨h', e, hb⟩ := (kat j h).1 c
          rw [e]
          exact (sq_ok hb).2.2
        · rw [(kat j h).2 (by omega)]
          constructor <;> decide
      have hzl : (os.zip ks).length = n + 1 := by rw [List.length_zip]; omega
      have zat : ∀ j (h : j < (os.zip ks).length), ∃ h1 h2, (os.zip ks)[j] = (os[j]'h1, ks[j]'h2) := fun j h => ⟨by omega, by omega, List.getElem_zip⟩
      have zok : ZsOk (os.zip ks) := by
        refine ⟨fun z hz => ?_, fun p hp => ?_, by omega⟩
        · obtain ⟨j, hj, rfl⟩ := List.getElem_of_mem hz
          obtain ⟨h1, h2, e⟩ := zat j hj
          rw [e]
          exact ⟨(ho.sz j h1).mono (by omega), ksz j h2⟩
        · obtain ⟨j, hj, rfl⟩ := List.getElem_of_mem hp
          have hj' : j + 1 < (os.zip ks).length := by
            rw [List.length_zip, List.length_tail] at hj
            omega
          obtain ⟨h1, h2, e⟩ := zat j (by omega)
          obtain ⟨h3, h4, e'⟩ := zat (j + 1) hj'
          have : ((os.zip ks).zip (os.zip ks).tail)[j] = ((os.zip ks)[j]'(by omega), (os.zip ks)[j + 1]'hj') := by
            rw [List.getElem_zip, List.getElem_tail]
          rw [this, e, e']
          exact (ho.rise j h3).2
      have zne : os.zip ks ≠ [] := fun z => by rw [z] at hzl; cases hzl
      have fin := h1 (os.zip ks) a zne zok ha
      rw [z1, z2] at fin
      rw [fin, M.pure_bind]
      refine Sure.of rfl ⟨_, rfl, ft_sz ha _ zok, ?_, by rw [ft_len]; omega⟩
      have as := zip_drop (n := 0) (os := os) (ks := ks) (fun j h => (ho.rise j h).1) krise
      cases hz : os.zip ks with
      | nil => exact absurd hz zne
      | cons z r =>
        rw [hz] at as hzl
        have zat' : ∀ j (h : j < (z :: r).length), ∃ h1 h2, (z :: r)[j] = (os[j]'h1, ks[j]'h2) := fun j h => by
          have := zat j (by rw [hz]; exact h)
          simpa only [hz] using this
        refine ft_isP ha0 ?_ ?_ as ?_
        · obtain ⟨h1, h2, e⟩ := zat' 0 (by simp)
          have e' : z = (os[0]'h1, ks[0]'h2) := e
          rw [e']
          have := ho.zero
          rw [List.getElem?_eq_getElem h1] at this
          exact Option.some.inj this
        · obtain ⟨h1, h2, e⟩ := zat' 0 (by simp)
          have e' : z = (os[0]'h1, ks[0]'h2) := e
          rw [e']
          show 0 ≤ ks[0]
          by_cases c : 0 < n
          · obtain ⟨h', e, hb⟩ := (kat 0 (by omega)).1 c
            rw [e]
            exact (sq_ok hb).1
          · rw [(kat 0 (by omega)).2 (by omega)]
            decide
        · rw [List.getLast_eq_getElem]
          obtain ⟨h1, h2, e⟩ := zat' ((z :: r).length - 1) (by simp)
          rw [e]
          show ks[(z :: r).length - 1] = 1
          exact (kat _ (by omega)).2 (by omega)
end
end BA.Li
/-! Pl13 -/
set_option Elab.async false
set_option linter.all false
set_option maxRecDepth 100000
set_option maxHeartbeats 1000000
/-! Pl13: strings near to a text. -/
namespace BA.Li
open PySem L2 BA
theorem cutS_len (z : Str) (lo hi : Option Int) : (cutS z lo hi).length ≤ z.length := by
  rw [len_cs, len_cs z]
  unfold cutS
  rw [show ∀ l : List Nat, cs ⟨l.toArray⟩ = l from fun l => rfl]
  rw [List.length_take, List.length_drop]
  show min _ ((cs z).length - _) ≤ (cs z).length
  omega
theorem cut_from {α : Type} (xs : List α) (n : Nat) : cut xs (some (n : Int)) none = xs.drop n := by
  unfold cut
  rw [HT.sIx_none, HT.sIx_nat]
  by_cases h : n ≤ xs.length
  · rw [Nat.min_eq_left h, List.take_of_length_le (by rw [List.length_drop]; omega)]
  · rw [Nat.min_eq_right (by omega), List.drop_eq_nil_of_le (Nat.le_refl _), List.drop_eq_nil_of_le (by omega), List.take_nil]
theorem join_le (s : Str) (ys : List Str) : (Txt.join s ys).length ≤ (ys.map (·.length)).sum + ys.length * s.length := by
  show (Builtin.Str.glued s ys).length ≤ _
  rw [StrLaws.glued_eq_join]
  exact StrLaws.join_length_le s ys
theorem sum_app (xs ys : List Str) : ((xs ++ ys).map (·.length)).sum = (xs.map (·.length)).sum + (ys.map (·.length)).sum := by
  rw [List.map_append, List.sum_append]
theorem sum_take (xs : List Str) (n : Nat) : ((xs.take n).map (·.length)).sum + ((xs.drop n).map (·.length)).sum = (xs.map (·.length)).sum := by
  rw [← sum_app, List.take_append_drop]
theorem sum_drop_le (xs : List Str) (n : Nat) : ((xs.drop (n + 1)).map (·.length)).sum ≤ ((xs.drop n).map (·.length)).sum := by
  by_cases h : n < xs.length
  · rw [List.drop_eq_getElem_cons h, List.map_cons, List.sum_cons]
    omega
  · rw [List.drop_eq_nil_of_le (by omega), List.drop_eq_nil_of_le (by omega)]
    exact Nat.le_refl _
theorem sum_rev (xs : List Str) : ((xs.reverse).map (·.length)).sum = (xs.map (·.length)).sum := by
  rw [List.map_reverse, List.sum_reverse]
section
variable {T : Tab} {call : Nat → List PV → M PV}
def ShortV (n : Nat) (v : PV) : Prop := ∃ w, v = .str w ∧ w.length ≤ n
theorem join_ok {ys : List Str} {n : Nat} (h : (ys.map (·.length)).sum + ys.length ≤ n) (hn : n ≤ 90000) : ∃ w, mthV .join (.str " ") [.lst (ys.map .str)] = some (.str w) ∧ w.length ≤ n := by
  refine ⟨_, join_mth (by rw [one_blank]; omega), ?_⟩
  have := join_le (" " : Str) ys
  rw [one_blank] at this
  omega
theorem lits1 {v : PV} (h : v ∈ [PV.str "0", PV.str "1", PV.str "-", PV.str " ", PV.str ",", PV.str "/", PV.str "x"]) : ShortV 1 v := by
  simp only [List.mem_cons, List.mem_nil_iff, or_false] at h
  rcases h with rfl | rfl | rfl | rfl | rfl | rfl | rfl <;> exact ⟨_, rfl, by decide +kernel⟩
theorem lits2 {v : PV} (h : v ∈ [PV.str "0", PV.str "7", PV.str " ", PV.str "/", PV.str "-", PV.str ","]) : ShortV 1 v := by
  simp only [List.mem_cons, List.mem_nil_iff, or_false] at h
  rcases h with rfl | rfl | rfl | rfl | rfl | rfl <;> exact ⟨_, rfl, by decide +kernel⟩
def Sp_bent (f : List PV → M PV) : Prop := ∀ w : Str, w.length ≤ 20000 → Sure 6 (f [.drw, .str w]) (ShortV 90000)
theorem ok__law_bent {f__law_pick f__law_take : Nat} (h1 : Sp_pick (call f__law_pick)) (h2 : Sp_take (call f__law_take)) : Sp_bent (run T call (d__law_bent f__law_pick f__law_take)) := by
  intro w hw
  have hz : 90010 ≤ sizeLine := by decide
  refine Sure.run rfl ?_
  unfold d__law_bent c__law_bent
  refine Sure.le (c := 1 + (1 + (2 + (0 + (1 + 0))))) ?_ (by decide)
  -- at, words
  refine Sure.seq ?_
  have e0 := split_mth blank_len (w := w) (by omega)
  have e1 : evS T call (.par 4 5 false false (.cal f__law_take (.cons (.var 0) (.cons (.bin .add (.prm .len (.cons (.var 1) .nil)) (.cst (.int 1))) .nil))) (.mth .split (.var 1) (.cst (.str " ")))) [.val .drw, .val (.str w), .non, .non, .non, .non] = call f__law_take [.drw, .int ((w.length + 1 : Nat) : Int)] >>= fun v => pure (.nx [.val .drw, .val (.str w), .non, .non, .val v, .val (.lst ((parts w " ").map .str))]) := by
    have : ((w.length + 1 : Nat) : Int) = (w.length : Int) + 1 := by omega
    rw [this]
    simp [e0]
  show Sure 1 (evS T call _ [.val .drw, .val (.str w), .non, .non, .non, .non]) _
  rw [e1]
  refine Sure.bind (c := 1) (d := 0) (h2 (w.length + 1) (by omega) (by omega)) fun v hv => Sure.of rfl ?_
  obtain ⟨at_, rfl, hat⟩ := hv
  have ls := sum_len w (" " : Str)
  rw [one_blank] at ls
  have lne := List.length_pos_iff.mpr (parts_ne w " ")
  generalize parts w " " = ws at *
  -- place
  refine Sure.seq ?_
  have e2 : evS T call (.asg (.nm 2) (.cal f__law_take (.cons (.var 0) (.cons (.prm .len (.cons (.var 5) .nil)) .nil)))) [.val .drw, .val (.str w), .non, .non, .val (.int at_), .val (.lst (ws.map .str))] = call f__law_take [.drw, .int (ws.length : Nat)] >>= fun v => pure (.nx [.val .drw, .val (.str w), .val v, .non, .val (.int at_), .val (.lst (ws.map .str))]) := by
    simp
  rw [e2]
  refine Sure.bind (c := 1) (d := 0) (h2 ws.length lne (by omega)) fun v hv => Sure.of rfl ?_
  obtain ⟨pl, rfl, hpl⟩ := hv
  -- the first three
  refine Sure.seq ?_
  obtain ⟨a1, ea1, la1⟩ : ∃ z, slcV (.str w) none (some (at_ : Int)) = some (.str z) ∧ z.length ≤ w.length := ⟨_, rfl, cutS_len _ _ _⟩
  obtain ⟨a2, ea2, la2⟩ : ∃ z, slcV (.str w) (some (at_ : Int)) none = some (.str z) ∧ z.length ≤ w.length := ⟨_, rfl, cutS_len _ _ _⟩
  obtain ⟨a3, ea3, la3⟩ : ∃ z, slcV (.str w) (some ((at_ : Int) + 1)) none = some (.str z) ∧ z.length ≤ w.length := ⟨_, rfl, cutS_len _ _ _⟩
  have e3 : evS T call (.asg (.nm 3) (.lst (.cons (.bin .add (.bin .add (.slc (.var 1) .nil (.var 4)) (.cal f__law_pick (.cons (.var 0) (.cons (.lst (.cons (.cst (.str "0")) (.cons (.cst (.str "1")) (.cons (.cst (.str "-")) (.cons (.cst (.str " ")) (.cons (.cst (.str ",")) (.cons (.cst (.str "/")) (.cons (.cst (.str "x")) .nil)))))))) .nil)))) (.slc (.var 1) (.var 4) .nil)) (.cons (.bin .add (.slc (.var 1) .nil (.var 4)) (.slc (.var 1) (.bin .add (.var 4) (.cst (.int 1))) .nil)) (.cons (.bin .add (.bin .add (.slc (.var 1) .nil (.var 4)) (.cal f__law_pick (.cons (.var 0) (.cons (.lst (.cons (.cst (.str "0")) (.cons (.cst (.str "7")) (.cons (.cst (.str " ")) (.cons (.cst (.str "/")) (.cons (.cst (.str "-")) (.cons (.cst (.str ",")) .nil))))))) .nil)))) (.slc (.var 1) (.bin .add (.var 4) (.cst (.int 1))) .nil)) .nil))))) [.val .drw, .val (.str w), .val (.int pl), .non, .val (.int at_), .val (.lst (ws.map .str))]
    = call f__law_pick [.drw, .lst [PV.str "0", PV.str "1", PV.str "-", PV.str " ", PV.str ",", PV.str "/", PV.str "x"]] >>= fun p => M.lift (binV .add (.str a1) p) >>= fun q => M.lift (binV .add q (.str a2)) >>= fun b1 => M.lift (binV .add (.str a1) (.str a3)) >>= fun b2 => call f__law_pick [.drw, .lst [PV.str "0", PV.str "7", PV.str " ", PV.str "/", PV.str "-", PV.str ","]] >>= fun p2 => M.lift (binV .add (.str a1) p2) >>= fun q2 => M.lift (binV .add q2 (.str a3)) >>= fun b3 => pure (.nx [.val .drw, .val (.str w), .val (.int pl), .val (.lst [b1, b2, b3]), .val (.int at_), .val (.lst (ws.map .str))]) := by
    generalize ws.map PV.str = W at *
    simp [IE.isNil, ea1, ea2, ea3]
  rw [e3]
  refine Sure.bind (c := 1) (d := 1) (h1 _ (by simp) (by decide)).1 fun v hv => ?_
  obtain ⟨p, rfl, lp⟩ := lits1 hv
  rw [binV_strs (by omega), M.lift_some, M.pure_bind, binV_strs (by rw [Str.length_append]; omega), M.lift_some, M.pure_bind, binV_strs (by omega), M.lift_some, M.pure_bind]
  refine Sure.bind (c := 1) (d := 0) (h1 _ (by simp) (by decide)).1 fun v hv => ?_
  obtain ⟨p2, rfl, lp2⟩ := lits2 hv
  rw [binV_strs (by omega), M.lift_some, M.pure_bind, binV_strs (by rw [Str.length_append]; omega), M.lift_some, M.pure_bind]
  refine Sure.of rfl ?_
  -- the others
  have j1 : slcV (.lst (ws.map .str)) none (some (pl : Int)) = some (.lst ((ws.take pl).map .str)) := by
    show some (PV.lst (cut _ none (some (pl : Int)))) = _
    rw [cut_to, List.map_take]
  have j2 : slcV (.lst (ws.map .str)) (some ((pl : Int) + 1)) none = some (.lst ((ws.drop (pl + 1)).map .str)) := by
    show some (PV.lst (cut _ (some (((pl + 1 : Nat) : Int))) none)) = _
    rw [cut_from, List.map_drop]
  have j3 : slcV (.lst (ws.map .str)) none (some 1) = some (.lst ((ws.take 1).map .str)) := by
    show some (PV.lst (cut _ none (some ((1 : Nat) : Int)))) = _
    rw [cut_to, List.map_take]
  have t1 := sum_take ws pl
  have t2 := sum_drop_le ws pl
  have t3 := sum_take ws 1
  have b1 : binV .add (.lst ((ws.take pl).map .str)) (.lst ((ws.drop (pl + 1)).map .str)) = some (.lst ((ws.take pl ++ ws.drop (pl + 1)).map .str)) := by
    rw [binV_lsts (by simp only [List.length_map, List.length_take, List.length_drop]; omega), List.map_append]
  have b2 : binV .add (.lst (ws.map .str)) (.lst ((ws.take 1).map .str)) = some (.lst ((ws ++ ws.take 1).map .str)) := by
    rw [binV_lsts (by simp only [List.length_map, List.length_take]; omega), List.map_append]
  obtain ⟨k1, ek1, lk1⟩ := join_ok (ys := ws.take pl ++ ws.drop (pl + 1)) (n := 90000) (by rw [sum_app, List.length_append, List.length_take, List.length_drop]; omega) (Nat.le_refl _)
  obtain ⟨k2, ek2, lk2⟩ := join_ok (ys := ws ++ ws.take 1) (n := 90000) (by rw [sum_app, List.length_append, List.length_take]; omega) (Nat.le_refl _)
  obtain ⟨k3, ek3, lk3⟩ := join_ok (ys := ws.reverse) (n := 90000) (by rw [sum_rev, List.length_reverse]; omega) (Nat.le_refl _)
  have k4 : binV .add (.str w) (.str " ") = some (.str (w ++ (" " : Str))) := binV_strs (by rw [one_blank]; omega)
  have k5 : binV .add (.str " ") (.str w) = some (.str ((" " : Str) ++ w)) := binV_strs (by rw [one_blank]; omega)
  have rv : (ws.map PV.str).reverse = ws.reverse.map .str := by rw [List.map_reverse]
  have bb : ∀ a b c : PV, ∀ r : List PV, r.length ≤ 20 → binV .add (.lst [a, b, c]) (.lst r) = some (.lst ([a, b, c] ++ r)) := fun a b c r hr => binV_lsts (by simp; omega)
  generalize h3 : [PV.str (a1 ++ p ++ a2), PV.str (a1 ++ a3), PV.str (a1 ++ p2 ++ a3)] = L3 at *
  have bL : binV .add (.lst L3) (.lst [.str k1, .str k2, .str k3, .str (w ++ (" " : Str)), .str ((" " : Str) ++ w), .str "", .str "0,0,1", .str "0,0,1 ", .str "0,-1,1", .str "0,2/2,1", .str "00,0,1"]) = some (.lst (L3 ++ [.str k1, .str k2, .str k3, .str (w ++ (" " : Str)), .str ((" " : Str) ++ w), .str "", .str "0,0,1", .str "0,0,1 ", .str "0,-1,1", .str "0,2/2,1", .str "00,0,1"])) := by
    rw [← h3]
    exact bb _ _ _ _ (by simp)
  refine Sure.seq (Sure.of (a := .nx [.val .drw, .val (.str w), .val (.int pl), .val (.lst (L3 ++ [.str k1, .str k2, .str k3, .str (w ++ (" " : Str)), .str ((" " : Str) ++ w), .str "", .str "0,0,1", .str "0,0,1 ", .str "0,-1,1", .str "0,2/2,1", .str "00,0,1"])), .val (.int at_), .val (.lst (ws.map .str))]) ?_ ?_)
  · generalize ws.reverse.map PV.str = W1 at *
    generalize (ws.take pl ++ ws.drop (pl + 1)).map PV.str = W2 at *
    generalize (ws ++ ws.take 1).map PV.str = W3 at *
    generalize (ws.take pl).map PV.str = W4 at *
    generalize (ws.drop (pl + 1)).map PV.str = W5 at *
    generalize (ws.take 1).map PV.str = W6 at *
    generalize ws.map PV.str = W at *
    simp [IE.isNil, j1, j2, j3, b1, b2, ek1, ek2, ek3, k4, k5, rv, bL, -List.append_assoc]
  · refine Sure.seq ?_
    have hL : ∀ v ∈ L3 ++ [.str k1, .str k2, .str k3, .str (w ++ (" " : Str)), .str ((" " : Str) ++ w), .str "", .str "0,0,1", .str "0,0,1 ", .str "0,-1,1", .str "0,2/2,1", .str "00,0,1"], ShortV 90000 v := by
      intro v hv
      rw [← h3] at hv
      simp only [List.cons_append, List.nil_append, List.mem_cons, List.mem_nil_iff, or_false] at hv
      rcases hv with rfl | rfl | rfl | rfl | rfl | rfl | rfl | rfl | rfl | rfl | rfl | rfl | rfl | rfl
      · exact ⟨_, rfl, by rw [Str.length_append, Str.length_append]; omega⟩
      · exact ⟨_, rfl, by rw [Str.length_append]; omega⟩
      · exact ⟨_, rfl, by rw [Str.length_append, Str.length_append]; omega⟩
      · exact ⟨_, rfl, lk1⟩
      · exact ⟨_, rfl, lk2⟩
      · exact ⟨_, rfl, lk3⟩
      · exact ⟨_, rfl, by rw [Str.length_append, one_blank]; omega⟩
      · exact ⟨_, rfl, by rw [Str.length_append, one_blank]; omega⟩
      all_goals exact ⟨_, rfl, by decide +kernel⟩
    have ne : L3 ++ [.str k1, .str k2, .str k3, .str (w ++ (" " : Str)), .str ((" " : Str) ++ w), .str "", .str "0,0,1", .str "0,0,1 ", .str "0,-1,1", .str "0,2/2,1", .str "00,0,1"] ≠ [] := by simp
    have ll : (L3 ++ [PV.str k1, PV.str k2, PV.str k3, PV.str (w ++ (" " : Str)), PV.str ((" " : Str) ++ w), PV.str "", PV.str "0,0,1", PV.str "0,0,1 ", PV.str "0,-1,1", PV.str "0,2/2,1", PV.str "00,0,1"]).length < 2 ^ 64 := by rw [← h3]; exact (show (14 : Nat) < 2 ^ 64 by decide)
    generalize L3 ++ [.str k1, .str k2, .str k3, .str (w ++ (" " : Str)), .str ((" " : Str) ++ w), .str "", .str "0,0,1", .str "0,0,1 ", .str "0,-1,1", .str "0,2/2,1", .str "00,0,1"] = L at *
    have e5 : evS T call (.ret (.cal f__law_pick (.cons (.var 0) (.cons (.var 3) .nil)))) [.val .drw, .val (.str w), .val (.int pl), .val (.lst L), .val (.int at_), .val (.lst (ws.map .str))] = call f__law_pick [.drw, .lst L] >>= fun v => pure (.rt v) := by
      simp
    rw [e5]
    refine Sure.bind (c := 1) (d := 0) (h1 L ne ll).1 fun v hv => Sure.of rfl (hL v hv)
end
end BA.Li
/-! Pl14 -/
set_option Elab.async false
set_option linter.all false
set_option maxRecDepth 100000
set_option maxHeartbeats 1000000
/-! Pl14: the law of texts of profiles. -/
namespace BA.Li
open PySem L2 BA
/-! ### short texts -/
theorem sI_short {i : Int} (h : i.natAbs < 10 ^ 9) : (sI i).length ≤ 10 := by
  have key : ∀ n : Nat, n < 10 ^ 9 → (TL.numL n).length ≤ 9 := fun n hn => TL.numL_len (by decide) hn
  show (Str.ofString (toString i)).length ≤ 10
  cases i with
  | ofNat n =>
    have e := TL.tl_num n
    rw [TL.len_tl]
    have e2 : Str.ofString (toString (Int.ofNat n)) = Str.ofString (toString ((n : Nat) : Int)) := rfl
    rw [e2, e]
    have := key n h
    omega
  | negSucc n =>
    have e2 : toString (Int.negSucc n) = "-" ++ toString (n + 1) := rfl
    rw [TL.len_tl, TL.tl_ofString, e2, String.toList_append, List.map_append, List.length_append]
    have e3 : (toString (n + 1)).toList.map Char.toNat = TL.numL (n + 1) := by
      have := TL.tl_num (n + 1)
      rw [TL.tl_ofString] at this
      exact this
    rw [e3]
    have := key (n + 1) h
    have h4 : (List.map Char.toNat "-".toList).length = 1 := by decide
    omega
theorem rwS_short {q : Rat} (h : shQ q = true) : (rwS q).length ≤ 21 := by
  unfold shQ at h
  rw [Bool.and_eq_true, decide_eq_true_eq, decide_eq_true_eq] at h
  have h1 := sI_short h.1
  have h2 := sI_short (i := q.den) (by rw [Int.natAbs_natCast]; exact h.2)
  have h3 : (("/" : String) : Str).length = 1 := by decide +kernel
  unfold rwS
  split
  · omega
  · rw [Str.length_append, Str.length_append]
    omega
theorem tS_short {t : Tri} (h : shT t = true) : (tS t).length ≤ 66 := by
  unfold shT at h
  rw [Bool.and_eq_true, Bool.and_eq_true] at h
  have h1 := rwS_short h.1
  have h2 := rwS_short h.2.1
  have h3 := rwS_short h.2.2
  have := join_le ("," : Str) [rwS t.1, rwS t.2.1, rwS t.2.2]
  rw [one_comma] at this
  unfold tS
  simp only [List.map_cons, List.map_nil, List.sum_cons, List.sum_nil, List.length_cons, List.length_nil] at this
  omega
theorem lnT_short : ∀ {xs : List Tri}, xs.all shT = true → lnT xs ≤ 67 * xs.length
  | [], _ => by simp [lnT]
  | t :: xs, h => by
    rw [List.all_cons, Bool.and_eq_true] at h
    have h1 := tS_short h.1
    have h2 := lnT_short h.2
    unfold lnT at h2 ⊢
    rw [List.map_cons, List.sum_cons, List.length_cons]
    omega
theorem lineS_len (xs : List Tri) : (lineS xs).length ≤ lnT xs := by
  have h1 := join_le (" " : Str) (xs.map tS)
  have h2 := sum_ln xs
  rw [one_blank] at h1
  unfold lineS
  omega
/-! ### what is no profile -/
theorem chain_app : ∀ (r : List Tri) (t u : Tri), chain ((t :: r) ++ [u]) = true → goT (lastT t r) u = true ∧ chain (t :: r) = true
  | [], t, u, h => by
    have : chain [t, u] = (goT t u && chain [u]) := chain_cons t u []
    have h' : chain [t, u] = true := h
    rw [this, Bool.and_eq_true] at h'
    exact ⟨h'.1, rfl⟩
  | b :: r, t, u, h => by
    have e : chain ((t :: b :: r) ++ [u]) = (goT t b && chain ((b :: r) ++ [u])) := chain_cons t b (r ++ [u])
    rw [e, Bool.and_eq_true] at h
    obtain ⟨h1, h2⟩ := chain_app r b u h.2
    refine ⟨h1, ?_⟩
    rw [chain_cons, h.1, h2]
    rfl
theorem twice_no (xs : List Tri) (h : isP xs = true) : isP (xs ++ xs.take 1) = false := by
  cases xs with
  | nil => rfl
  | cons t r =>
    cases q : isP ((t :: r) ++ (t :: r).take 1) with
    | false => rfl
    | true =>
      exfalso
      rw [isP_lawP] at q
      have c : chain ((t :: r) ++ [t]) = true := by
        have q' : lawP (t :: (r ++ [t])) = true := q
        unfold lawP at q'
        simp only [Bool.and_eq_true] at q'
        exact q'.2.2.2.2
      obtain ⟨g, cc⟩ := chain_app r t t c
      unfold goT at g
      rw [Bool.and_eq_true, decide_eq_true_eq] at g
      have := (chain_le r t cc _ (lastT_mem r t)).1
      exact absurd g.1 (Rat.not_lt.mpr this)
section
variable {T : Tab} {call : Nat → List PV → M PV}
/-- an error that is caught behind a draw -/
theorem Sure.cau {c : Nat} {e : IE} {S : Env} {m : M PV} {k : PV → M PV} {P : PV → Prop} {C : Nat} {fs : List PV} (he : evE T call e S = m >>= k) (hm : Sure c m P) (hk : ∀ v, P v → k v = M.raise C fs) (hC : T.exc[C]? = some true) : Sure c (evE T call (.cau e) S) fun v => v = .exn C fs := fun D t ht hb => by
  obtain ⟨a, D', h1, h2, h3⟩ := hm D t ht hb
  refine ⟨.exn C fs, D', ?_, rfl, h3⟩
  have e2 : evE T call e S D = some (.exn C fs, D') := by
    rw [he, M.bind_eq, h1]
    show k a D' = _
    rw [hk a h2]
    rfl
  rw [qE_cau]
  simp only [e2]
  exact if_pos hC
structure Good (xs : List Tri) : Prop where
  t : Tris xs
  s : xs.all shT = true
theorem fars {v : PV} (h : v ∈ [PV.tup [.int 1000000000, .int 1], PV.tup [.int 1, .int 1000000000], PV.tup [.int 1999999999, .int 2]]) : ∃ q : Rat, v = pQ q ∧ shQ q = false ∧ Sz 900 q := by
  simp only [List.mem_cons, List.mem_nil_iff, or_false] at h
  have m : ∀ {q : Rat}, Sz 40 q → Sz 900 q := fun h => h.mono (by decide)
  rcases h with rfl | rfl | rfl
  · exact ⟨⟨1000000000, 1, by decide, by decide⟩, rfl, by decide, m (by constructor <;> decide)⟩
  · exact ⟨⟨1, 1000000000, by decide, by decide⟩, rfl, by decide, m (by constructor <;> decide)⟩
  · exact ⟨⟨1999999999, 2, by decide, by decide⟩, rfl, by decide, m (by constructor <;> decide)⟩
theorem three {v : PV} (h : v ∈ [PV.int 2, PV.int 4, PV.int 9]) : ∃ m : Nat, v = .int m ∧ 0 < m ∧ m ≤ 9 := by
  simp only [List.mem_cons, List.mem_nil_iff, or_false] at h
  rcases h with rfl | rfl | rfl
  · exact ⟨2, rfl, by decide, by decide⟩
  · exact ⟨4, rfl, by decide, by decide⟩
  · exact ⟨9, rfl, by decide, by decide⟩
theorem sz0 (k : Nat) (hk : 1 ≤ k) : Sz k (0 : Rat) := Sz.mono (a := 1) (by constructor <;> decide) hk
theorem sz1 (k : Nat) (hk : 1 ≤ k) : Sz k (1 : Rat) := Sz.mono (a := 1) (by constructor <;> decide) hk
def half : Rat := ⟨1, 2, by decide, by decide⟩
def third : Rat := ⟨1, 3, by decide, by decide⟩
theorem std_good : Good (ft third [(0, half), (2, 1)]) := by
  refine ⟨⟨?_, by decide +kernel, by decide⟩, by decide +kernel⟩
  refine ft_sz (by constructor <;> decide) _ ⟨fun z hz => ?_, fun p hp => ?_, by decide⟩
  · simp only [List.mem_cons, List.mem_nil_iff, or_false] at hz
    rcases hz with rfl | rfl
    · exact ⟨Sz.mono (a := 3) (by constructor <;> decide) (by decide), Sz.mono (a := 3) (by constructor <;> decide) (by decide)⟩
    · exact ⟨Sz.mono (a := 3) (by constructor <;> decide) (by decide), Sz.mono (a := 3) (by constructor <;> decide) (by decide)⟩
  · have : p = ((0, half), (2, 1)) := by simpa using hp
    subst this
    exact Sz.mono (a := 3) (by constructor <;> decide +kernel) (by decide)
structure K71 (T : Tab) (call : Nat → List PV → M PV) (C_BadProfile C_BadText a_line f__law_bent f__law_from_top f__law_is_read f__law_is_short f__law_line f__law_pick f__law_says f__law_triples f_profile_text f_read_profile : Nat) : Prop where
  bp : ∃ fs, ExcC T C_BadProfile fs
  bt : ExcC T C_BadText [a_line]
  bent : Sp_bent (call f__law_bent)
  top : Sp_from_top (call f__law_from_top)
  isread : Sp_is_read (call f__law_is_read)
  short : Sp_law_short (call f__law_is_short)
  line : Sp_line (call f__law_line)
  pick : Sp_pick (call f__law_pick)
  says : Sp_says (call f__law_says)
  triples : Sp_triples (call f__law_triples)
  text : Sp_profile_text C_BadProfile (call f_profile_text)
  read : Sp_read_profile C_BadText (call f_read_profile)
variable {C_BadProfile C_BadText a_line f__law_bent f__law_from_top f__law_is_read f__law_is_short f__law_line f__law_pick f__law_says f__law_triples f_profile_text f_read_profile : Nat}
/-- what stands between two turns -/
def Mid (sc : PV) (i : Nat) (S : Env) : Prop := ∃ s2 s6 s7 s8, S = [.val sc, .val .drw, s2, .non, .non, .non, s6, s7, s8] ∧ (0 < i → ∃ xs, Good xs ∧ s6 = .val (e3 xs) ∧ s7 = .val (.str (lineS xs)))
theorem law71_bents (k : K71 T call C_BadProfile C_BadText a_line f__law_bent f__law_from_top f__law_is_read f__law_is_short f__law_line f__law_pick f__law_says f__law_triples f_profile_text f_read_profile) (sc w6 : PV) (s2 s8 : SV) (w : Str) (hw : w.length ≤ 20000) :
    Sure 48 (evS T call (.for_ (.nm 8) (.rng1 (.cst (.int 8))) (.cons (.iff (.not (.cal f__law_is_read (.cons (.cal f__law_bent (.cons (.var 1) (.cons (.var 7) .nil))) .nil))) (.cons (.ret (.cst (.bl false))) .nil) .nil) .nil)) [.val sc, .val .drw, s2, .non, .non, .non, .val w6, .val (.str w), s8]) fun f => ∃ s8, f = .nx [.val sc, .val .drw, s2, .non, .non, .non, .val w6, .val (.str w), s8] := by
  have s : small 8 = true := by decide
  have e : evI T call (.rng1 (.cst (.int 8))) [.val sc, .val .drw, s2, .non, .non, .non, .val w6, .val (.str w), s8] = pure (rangeV 0 1 8) := by simp [s]
  rw [qS_forB, e, M.pure_bind]
  have l8 : (rangeV 0 1 8).length = 8 := rfl
  generalize rangeV 0 1 8 = R at *
  refine (Sure.le (Sure.forB (c := 6) (I := fun i S => ∃ s8, S = [.val sc, .val .drw, s2, .non, .non, .non, .val w6, .val (.str w), s8]) (R := fun _ => False) ⟨_, rfl⟩ fun i x S hx hi => ?_) (by rw [l8]; decide)).imp fun f hf => ?_
  · obtain ⟨s8, rfl⟩ := hi
    refine ⟨[.val sc, .val .drw, s2, .non, .non, .non, .val w6, .val (.str w), .val x], by simp, ?_⟩
    refine Sure.seq (c := 6) (d := 0) ?_
    have e1 : evS T call (.iff (.not (.cal f__law_is_read (.cons (.cal f__law_bent (.cons (.var 1) (.cons (.var 7) .nil))) .nil))) (.cons (.ret (.cst (.bl false))) .nil) .nil) [.val sc, .val .drw, s2, .non, .non, .non, .val w6, .val (.str w), .val x] = call f__law_bent [.drw, .str w] >>= fun v => call f__law_is_read [v] >>= fun b => M.lift (truV b) >>= fun b => if b = false then pure (.rt (.bl false)) else pure (.nx [.val sc, .val .drw, s2, .non, .non, .non, .val w6, .val (.str w), .val x]) := by simp
    rw [e1]
    refine Sure.bind (c := 6) (d := 0) (k.bent w hw) fun v hv => ?_
    obtain ⟨w', rfl, hw'⟩ := hv
    rw [k.isread w' hw', M.pure_bind]
    exact Sure.of rfl (Sure.of rfl ⟨_, rfl⟩)
  · cases f with
    | nx S' => obtain ⟨s8, rfl⟩ := hf; exact ⟨_, rfl⟩
    | rt v => exact hf.elim
    | bk v => exact hf.elim
    | ct v => exact hf.elim
/-- one turn -/
def turn71 (C_BadProfile f__law_bent f__law_from_top f__law_is_read f__law_is_short f__law_line f__law_pick f__law_says f__law_triples f_profile_text : Nat) : IB := (.cons (.asg (.nm 6) (.cal f__law_triples (.cons (.var 1) (.cons (.cal f__law_pick (.cons (.var 1) (.cons (.lst (.cons (.cst (.int 2)) (.cons (.cst (.int 4)) (.cons (.cst (.int 9)) .nil)))) .nil))) .nil)))) (.cons (.iff (.not (.cal f__law_is_short (.cons (.var 6) .nil))) (.cons (.iff (.not (.isi (.cau (.cal f_profile_text (.cons (.var 6) .nil))) [.own C_BadProfile])) (.cons (.ret (.cst (.bl false))) .nil) .nil) (.cons (.asg (.nm 6) (.cal f__law_from_top (.cons (.lst (.cons (.tup (.cons (.cst (.int 0)) (.cons (.cst (.int 1)) .nil))) (.cons (.tup (.cons (.cst (.int 2)) (.cons (.cst (.int 1)) .nil))) .nil))) (.cons (.lst (.cons (.tup (.cons (.cst (.int 1)) (.cons (.cst (.int 2)) .nil))) (.cons (.tup (.cons (.cst (.int 1)) (.cons (.cst (.int 1)) .nil))) .nil))) (.cons (.tup (.cons (.cst (.int 1)) (.cons (.cst (.int 3)) .nil))) .nil))))) .nil)) .nil) (.cons (.asg (.nm 7) (.cal f__law_line (.cons (.var 6) .nil))) (.cons (.iff (.or (.not (.cal f__law_says (.cons (.lst (.cons (.cal f_profile_text (.cons (.var 6) .nil)) (.cons (.calk f_profile_text .nil (.cons (.var 6) .nil)) .nil))) (.cons (.lst (.cons (.var 7) (.cons (.var 7) .nil))) .nil)))) (.not (.cal f__law_is_read (.cons (.var 7) .nil)))) (.cons (.ret (.cst (.bl false))) .nil) .nil) (.cons (.for_ (.nm 8) (.rng1 (.cst (.int 8))) (.cons (.iff (.not (.cal f__law_is_read (.cons (.cal f__law_bent (.cons (.var 1) (.cons (.var 7) .nil))) .nil))) (.cons (.ret (.cst (.bl false))) .nil) .nil) .nil)) .nil)))))
theorem law71_turn (k : K71 T call C_BadProfile C_BadText a_line f__law_bent f__law_from_top f__law_is_read f__law_is_short f__law_line f__law_pick f__law_says f__law_triples f_profile_text f_read_profile) (sc : PV) (s2 s6 s7 s8 : SV) :
    Sure 109 (evB T call (turn71 C_BadProfile f__law_bent f__law_from_top f__law_is_read f__law_is_short f__law_line f__law_pick f__law_says f__law_triples f_profile_text) [.val sc, .val .drw, s2, .non, .non, .non, s6, s7, s8]) fun f => ∃ xs s8, Good xs ∧ f = .nx [.val sc, .val .drw, s2, .non, .non, .non, .val (e3 xs), .val (.str (lineS xs)), s8] := by
  unfold turn71
  refine Sure.le (c := 61 + (0 + (0 + (0 + (48 + 0))))) ?_ (by decide)
  refine Sure.seq ?_
  have e1 : evS T call (.asg (.nm 6) (.cal f__law_triples (.cons (.var 1) (.cons (.cal f__law_pick (.cons (.var 1) (.cons (.lst (.cons (.cst (.int 2)) (.cons (.cst (.int 4)) (.cons (.cst (.int 9)) .nil)))) .nil))) .nil)))) [.val sc, .val .drw, s2, .non, .non, .non, s6, s7, s8] = call f__law_pick [.drw, .lst [PV.int 2, PV.int 4, PV.int 9]] >>= fun m => call f__law_triples [.drw, m] >>= fun v => pure (.nx [.val sc, .val .drw, s2, .non, .non, .non, .val v, s7, s8]) := by simp
  rw [e1]
  refine Sure.bind (c := 1) (d := 60) (k.pick _ (by simp) (by decide)).1 fun v hv => ?_
  obtain ⟨m, rfl, hm, hm9⟩ := three hv
  refine Sure.bind (c := 60) (d := 0) (k.triples m hm hm9) fun v hv => Sure.of rfl ?_
  obtain ⟨xs, rfl, ht⟩ := hv
  -- short
  have rest : ∀ xs : List Tri, Good xs → Sure (0 + (0 + (48 + 0))) (evB T call (.cons (.asg (.nm 7) (.cal f__law_line (.cons (.var 6) .nil))) (.cons (.iff (.or (.not (.cal f__law_says (.cons (.lst (.cons (.cal f_profile_text (.cons (.var 6) .nil)) (.cons (.calk f_profile_text .nil (.cons (.var 6) .nil)) .nil))) (.cons (.lst (.cons (.var 7) (.cons (.var 7) .nil))) .nil)))) (.not (.cal f__law_is_read (.cons (.var 7) .nil)))) (.cons (.ret (.cst (.bl false))) .nil) .nil) (.cons (.for_ (.nm 8) (.rng1 (.cst (.int 8))) (.cons (.iff (.not (.cal f__law_is_read (.cons (.cal f__law_bent (.cons (.var 1) (.cons (.var 7) .nil))) .nil))) (.cons (.ret (.cst (.bl false))) .nil) .nil) .nil)) .nil))) [.val sc, .val .drw, s2, .non, .non, .non, .val (e3 xs), s7, s8]) fun f => ∃ xs s8, Good xs ∧ f = .nx [.val sc, .val .drw, s2, .non, .non, .non, .val (e3 xs), .val (.str (lineS xs)), s8] := by
    intro xs g
    have ln := lnT_short g.s
    have ll := lineS_len xs
    have l20 := g.t.len
    have a1 := k.line xs g.t.sz (by omega)
    have ok : okT xs = true := by unfold okT; rw [g.t.p, g.s]; rfl
    have a2 := k.text.yes xs g.t.sz (by omega) (by omega) ok
    have a3 := k.says (.lst [.str (lineS xs), .str (lineS xs)]) (pd_strs [lineS xs, lineS xs]) (dp_strs [lineS xs, lineS xs]) (by simp [wt, wts])
    have a4 := k.isread (lineS xs) (by omega)
    generalize hv : e3 xs = v at *
    refine Sure.seq (Sure.of (a := .nx [.val sc, .val .drw, s2, .non, .non, .non, .val v, .val (.str (lineS xs)), s8]) (by simp [a1]) ?_)
    refine Sure.seq (Sure.of (a := .nx [.val sc, .val .drw, s2, .non, .non, .non, .val v, .val (.str (lineS xs)), s8]) (by simp [a2, a3, a4]) ?_)
    refine Sure.seq ((law71_bents k sc v s2 s8 (lineS xs) (by omega)).imp fun f hf => ?_)
    obtain ⟨s8', rfl⟩ := hf
    exact Sure.of rfl ⟨xs, s8', g, by rw [hv]⟩
  have sh := (k.short xs).2
  cases hs : xs.all shT with
  | true =>
    rw [hs] at sh
    refine Sure.seq (Sure.of (a := .nx [.val sc, .val .drw, s2, .non, .non, .non, .val (e3 xs), s7, s8]) (by simp [sh]) ?_)
    exact rest xs ⟨ht, hs⟩
  | false =>
    rw [hs] at sh
    obtain ⟨fs, hbp⟩ := k.bp
    have ok : okT xs = false := by unfold okT; rw [hs, Bool.and_false]
    have r := k.text.short xs ht.sz (by have := ht.len; omega) ok
    have c1 : evE T call (.cau (.cal f_profile_text (.cons (.var 6) .nil))) [.val sc, .val .drw, s2, .non, .non, .non, .val (e3 xs), s7, s8] = pure (.exn C_BadProfile []) := cau_raise (by simp [r]) hbp.exc
    have c2 := hbp.is []
    have c3 : call f__law_from_top [.lst [.tup [.int 0, .int 1], .tup [.int 2, .int 1]], .lst [.tup [.int 1, .int 2], .tup [.int 1, .int 1]], .tup [.int 1, .int 3]] = pure (e3 (ft third [(0, half), (2, 1)])) := by
      refine k.top [(0, half), (2, 1)] third (by simp) ⟨fun z hz => ?_, fun p hp => ?_, by decide⟩ (by constructor <;> decide)
      · simp only [List.mem_cons, List.mem_nil_iff, or_false] at hz
        rcases hz with rfl | rfl
        · exact ⟨Sz.mono (a := 3) (by constructor <;> decide) (by decide), Sz.mono (a := 3) (by constructor <;> decide) (by decide)⟩
        · exact ⟨Sz.mono (a := 3) (by constructor <;> decide) (by decide), Sz.mono (a := 3) (by constructor <;> decide) (by decide)⟩
      · have : p = ((0, half), (2, 1)) := by simpa using hp
        subst this
        exact Sz.mono (a := 3) (by constructor <;> decide +kernel) (by decide)
    refine Sure.seq (Sure.of (a := .nx [.val sc, .val .drw, s2, .non, .non, .non, .val (e3 (ft third [(0, half), (2, 1)])), s7, s8]) ?_ ?_)
    · generalize e3 (ft third [(0, half), (2, 1)]) = v2 at *
      generalize e3 xs = v1 at *
      simp [sh, c1, c2, c3]
    · exact rest _ std_good
theorem odd_raise (k : K71 T call C_BadProfile C_BadText a_line f__law_bent f__law_from_top f__law_is_read f__law_is_short f__law_line f__law_pick f__law_says f__law_triples f_profile_text f_read_profile) {xs : List Tri} (g : Good xs) {q : Rat} (hq : shQ q = false) (hz : Sz 900 q) {v : PV}
    (h : v ∈ [PV.tup [.tup [.tup [.int 0, .int 1], pQ q, .tup [.int 1, .int 1]]], PV.tup [.tup [.tup [.int 0, .int 1], pQ q, .tup [.int 0, .int 1]], .tup [pQ q, pQ q, .tup [.int 1, .int 1]]], PV.non, PV.tup [], PV.lst (xs.map pT), PV.str (lineS xs), e3 (xs ++ xs.take 1)]) : call f_profile_text [v] = M.raise C_BadProfile [] := by
  have l20 := g.t.len
  simp only [List.mem_cons, List.mem_nil_iff, or_false] at h
  rcases h with rfl | rfl | rfl | rfl | rfl | rfl | rfl
  · refine k.text.short [(0, q, 1)] (fun t ht => ?_) (by simp) ?_
    · rw [List.mem_singleton.mp ht]
      exact ⟨sz0 _ (by decide), hz, sz1 _ (by decide)⟩
    · simp [okT, shT, hq]
  · refine k.text.short [(0, q, 0), (q, q, 1)] (fun t ht => ?_) (by simp) ?_
    · simp only [List.mem_cons, List.mem_nil_iff, or_false] at ht
      rcases ht with rfl | rfl
      · exact ⟨sz0 _ (by decide), hz, sz0 _ (by decide)⟩
      · exact ⟨hz, hz, sz1 _ (by decide)⟩
    · simp [okT, shT, hq]
  · exact k.text.no _ rfl rfl
  · exact k.text.short [] (by simp) (by simp) rfl
  · exact k.text.no _ (pd_lst.mpr (pd_tup.mp (pd_e3 xs))) rfl
  · exact k.text.no _ rfl rfl
  · refine k.text.short _ (fun t ht => ?_) (by rw [List.length_append, List.length_take]; omega) ?_
    · rcases List.mem_append.mp ht with ht | ht
      · exact g.t.sz t ht
      · exact g.t.sz t (List.mem_of_mem_take ht)
    · unfold okT
      rw [twice_no xs g.t.p]
      rfl
theorem law71_ok (k : K71 T call C_BadProfile C_BadText a_line f__law_bent f__law_from_top f__law_is_read f__law_is_short f__law_line f__law_pick f__law_says f__law_triples f_profile_text f_read_profile) (ns : List Int) (hn : ns.length ≤ 63) :
    Sure 1200 (evB T call (c_law_k71 C_BadProfile C_BadText a_line f__law_bent f__law_from_top f__law_is_read f__law_is_short f__law_line f__law_pick f__law_says f__law_triples f_profile_text f_read_profile) [.val (.lst (ns.map .int)), .val .drw, .non, .non, .non, .non, .non, .non, .non]) fun f => f = .rt (.bl true) := by
  unfold c_law_k71
  generalize hsc : PV.lst (ns.map .int) = sc
  have lsc : primV .len [sc] = some (.int (ns.length : Nat)) := by
    rw [← hsc]
    show some (PV.int ((ns.map PV.int).length : Nat)) = _
    rw [List.length_map]
  refine Sure.le (c := 1090 + (1 + (1 + (0 + (1 + (0 + 0)))))) ?_ (by decide)
  -- the turns
  refine Sure.seq ?_
  obtain ⟨N, hN, hN0, hN10⟩ : ∃ N : Nat, (4 : Int) + min (ns.length : Int) 6 = N ∧ 0 < N ∧ N ≤ 10 := ⟨4 + min ns.length 6, by omega, by omega, by omega⟩
  have sN : small (N : Int) = true := by
    unfold small
    rw [Bool.and_eq_true, decide_eq_true_eq, decide_eq_true_eq]
    omega
  have e1 : evI T call (.rng1 (.bin .add (.cst (.int 4)) (.prm .min2 (.cons (.prm .len (.cons (.var 0) .nil)) (.cons (.cst (.int 6)) .nil))))) [.val sc, .val .drw, .non, .non, .non, .non, .non, .non, .non] = pure ((List.range N).map fun k : Nat => PV.int (0 + k)) := by
    rw [← range_ints]
    simp [lsc, hN, sN]
  rw [qS_forB, e1, M.pure_bind]
  refine (Sure.le (Sure.forB (c := 109) (I := Mid sc) (R := fun _ => False) ⟨_, _, _, _, rfl, fun h => absurd h (by omega)⟩ fun i x S hx hi => ?_) (by rw [List.length_map, List.length_range]; omega)).imp fun f hf => ?_
  · obtain ⟨s2, s6, s7, s8, rfl, _⟩ := hi
    refine ⟨[.val sc, .val .drw, .val x, .non, .non, .non, s6, s7, s8], by simp, (law71_turn k sc (.val x) s6 s7 s8).imp fun f hf => ?_⟩
    obtain ⟨xs, s8', g, rfl⟩ := hf
    exact ⟨_, _, _, _, rfl, fun _ => ⟨xs, g, rfl, rfl⟩⟩
  · cases f with
    | rt v => exact hf.elim
    | bk v => exact hf.elim
    | ct v => exact hf.elim
    | nx S' =>
      obtain ⟨s2, s6, s7, s8, rfl, h⟩ := hf
      obtain ⟨xs, g, rfl, rfl⟩ := h (by rw [List.length_map, List.length_range]; exact hN0)
      -- far
      refine Sure.seq ?_
      have e2 : evS T call (.asg (.nm 3) (.cal f__law_pick (.cons (.var 1) (.cons (.lst (.cons (.tup (.cons (.cst (.int 1000000000)) (.cons (.cst (.int 1)) .nil))) (.cons (.tup (.cons (.cst (.int 1)) (.cons (.cst (.int 1000000000)) .nil))) (.cons (.tup (.cons (.cst (.int 1999999999)) (.cons (.cst (.int 2)) .nil))) .nil)))) .nil)))) [.val sc, .val .drw, s2, .non, .non, .non, .val (e3 xs), .val (.str (lineS xs)), s8] = call f__law_pick [.drw, .lst [PV.tup [.int 1000000000, .int 1], PV.tup [.int 1, .int 1000000000], PV.tup [.int 1999999999, .int 2]]] >>= fun v => pure (.nx [.val sc, .val .drw, s2, .val v, .non, .non, .val (e3 xs), .val (.str (lineS xs)), s8]) := by
        generalize e3 xs = v at *
        simp
      rw [e2]
      refine Sure.bind (c := 1) (d := 0) (k.pick _ (by simp) (by decide)).1 fun v hv => Sure.of rfl ?_
      obtain ⟨q, rfl, hq, hz⟩ := fars hv
      -- odd
      refine Sure.seq ?_
      have l1 : primV .list [e3 xs] = some (.lst (xs.map pT)) := rfl
      have l2 : slcV (e3 xs) none (some 1) = some (e3 (xs.take 1)) := by
        show some (PV.tup (cut _ none (some ((1 : Nat) : Int)))) = _
        rw [cut_to, ← List.map_take]
        rfl
      have l20 := g.t.len
      have l3 : binV .add (e3 xs) (e3 (xs.take 1)) = some (e3 (xs ++ xs.take 1)) := by
        have : (100 : Nat) ≤ sizeLine := by decide
        show binV .add (.tup (xs.map pT)) (.tup ((xs.take 1).map pT)) = some (.tup ((xs ++ xs.take 1).map pT))
        rw [binV_tups (by rw [List.length_map, List.length_map, List.length_take]; omega), List.map_append]
      have e3' : evS T call (.asg (.nm 4) (.cal f__law_pick (.cons (.var 1) (.cons (.lst (.cons (.tup (.cons (.tup (.cons (.tup (.cons (.cst (.int 0)) (.cons (.cst (.int 1)) .nil))) (.cons (.var 3) (.cons (.tup (.cons (.cst (.int 1)) (.cons (.cst (.int 1)) .nil))) .nil)))) .nil)) (.cons (.tup (.cons (.tup (.cons (.tup (.cons (.cst (.int 0)) (.cons (.cst (.int 1)) .nil))) (.cons (.var 3) (.cons (.tup (.cons (.cst (.int 0)) (.cons (.cst (.int 1)) .nil))) .nil)))) (.cons (.tup (.cons (.var 3) (.cons (.var 3) (.cons (.tup (.cons (.cst (.int 1)) (.cons (.cst (.int 1)) .nil))) .nil)))) .nil))) (.cons (.cst .non) (.cons (.tup .nil) (.cons (.prm .list (.cons (.var 6) .nil)) (.cons (.var 7) (.cons (.bin .add (.var 6) (.slc (.var 6) .nil (.cst (.int 1)))) .nil)))))))) .nil)))) [.val sc, .val .drw, s2, .val (pQ q), .non, .non, .val (e3 xs), .val (.str (lineS xs)), s8]
        = call f__law_pick [.drw, .lst [PV.tup [.tup [.tup [.int 0, .int 1], pQ q, .tup [.int 1, .int 1]]], PV.tup [.tup [.tup [.int 0, .int 1], pQ q, .tup [.int 0, .int 1]], .tup [pQ q, pQ q, .tup [.int 1, .int 1]]], PV.non, PV.tup [], PV.lst (xs.map pT), PV.str (lineS xs), e3 (xs ++ xs.take 1)]] >>= fun v => pure (.nx [.val sc, .val .drw, s2, .val (pQ q), .val v, .non, .val (e3 xs), .val (.str (lineS xs)), s8]) := by
        generalize e3 (xs ++ xs.take 1) = v3 at *
        generalize e3 (xs.take 1) = v2 at *
        generalize e3 xs = v at *
        generalize xs.map pT = W at *
        simp [IE.isNil, l1, l2, l3]
      rw [e3']
      refine Sure.bind (c := 1) (d := 0) (k.pick _ (by simp) (by simp)).1 fun v hv => Sure.of rfl ?_
      have ro := odd_raise k g hq hz hv
      obtain ⟨fs, hbp⟩ := k.bp
      have c1 : evE T call (.cau (.cal f_profile_text (.cons (.var 4) .nil))) [.val sc, .val .drw, s2, .val (pQ q), .val v, .non, .val (e3 xs), .val (.str (lineS xs)), s8] = pure (.exn C_BadProfile []) := cau_raise (by simp [ro]) hbp.exc
      have c2 := hbp.is []
      generalize hvx : e3 xs = vx at *
      generalize pQ q = vq at *
      refine Sure.seq (Sure.of (a := .nx [.val sc, .val .drw, s2, .val vq, .val v, .non, .val vx, .val (.str (lineS xs)), s8]) (by simp [c1, c2]) ?_)
      -- no texts
      refine Sure.seq (c := 1) (d := 0 + 0) ?_
      have e4 : Sure 1 (evE T call (.cau (.cal f_read_profile (.cons (.cal f__law_pick (.cons (.var 1) (.cons (.lst (.cons (.cst .non) (.cons (.cst (.int 5)) (.cons (.lst (.cons (.var 7) .nil)) (.cons (.var 6) .nil))))) .nil))) .nil))) [.val sc, .val .drw, s2, .val vq, .val v, .non, .val vx, .val (.str (lineS xs)), s8]) fun v => v = .exn C_BadText [.non] := by
        refine Sure.cau (m := call f__law_pick [.drw, .lst [PV.non, PV.int 5, PV.lst [.str (lineS xs)], vx]]) (k := fun v => call f_read_profile [v]) (by simp) (k.pick _ (by simp) (by simp)).1 (fun v hv => ?_) k.bt.exc
        simp only [List.mem_cons, List.mem_nil_iff, or_false] at hv
        rcases hv with rfl | rfl | rfl | rfl
        · exact k.read.no _ rfl rfl
        · exact k.read.no _ rfl rfl
        · exact k.read.no _ (pd_strs [lineS xs]) rfl
        · rw [← hvx]
          exact k.read.no _ (pd_e3 xs) rfl
      rw [qS_asg]
      refine Sure.bind (c := 1) (d := 0) e4 fun v5 hv5 => ?_
      subst hv5
      refine Sure.of (a := .nx [.val sc, .val .drw, s2, .val vq, .val v, .val (.exn C_BadText [.non]), .val vx, .val (.str (lineS xs)), s8]) (by simp) ?_
      -- the last
      have isx := k.bt.is [.non]
      have fx : ((T.flds.getD C_BadText []).zip [PV.non]).lookup a_line = some .non := by
        rw [k.bt.flds]
        simp
      have six : Sz 900 (6 : Rat) := Sz.mono (a := 3) (by constructor <;> decide) (by decide)
      have fin : call f_profile_text [.tup [.tup [.tup [.int 0, .int 1], .tup [.int 6, .int 1], .tup [.int 0, .int 1]], .tup [.tup [.int 6, .int 1], .tup [.int 6, .int 1], .tup [.int 1, .int 1]]]] = pure (.str "0,6,0 6,6,1") := by
        have e : lineS [(0, 6, 0), (6, 6, 1)] = ("0,6,0 6,6,1" : Str) := by decide +kernel
        rw [← e]
        refine k.text.yes [(0, 6, 0), (6, 6, 1)] (fun t ht => ?_) (by simp) (by decide +kernel) (by decide +kernel)
        simp only [List.mem_cons, List.mem_nil_iff, or_false] at ht
        rcases ht with rfl | rfl
        · exact ⟨sz0 _ (by decide), six, sz0 _ (by decide)⟩
        · exact ⟨six, six, sz1 _ (by decide)⟩
      refine Sure.seq (c := 0) (d := 0) (Sure.of (a := .rt (.bl true)) ?_ rfl)
      simp [isx, k.bt.exc, -List.getD_eq_getElem?_getD, fx, isNonV, fin]
end
end BA.Li
/-! K71a -/
set_option Elab.async false
set_option linter.all false
set_option maxRecDepth 100000
set_option maxHeartbeats 0
set_option maxHeartbeats 1000000
namespace BA
open PySem PySem.Spec PyProof.Rows L2 LamX
abbrev sBeg : Stmt := PySem.Challenge.pw_bestatall_k71_whole_texts_of_profiles.main.body.getD 36 (.Pass ⟨0, 0, 0, 0⟩)
section
variable {P : Program} {w : World} {K : PySem.W.Frag} {mg : Str → Option Value} {base : Heap} {f : Addr} {fd : FuncData}
theorem scB : FnScope ["script", "large", "cell"] ["script"] (defScope sBeg) := ⟨rfl, rfl, rfl, by decide +kernel, rfl, by decide +kernel, by decide +kernel⟩
def tLarge (K : PySem.W.Frag) : TE := tLc (iList K (tVar 0)) (gName 2) (tTest (tOp (rCmp K .ge) tAb tTen)) (tOp (rI0 fun i j => .int (i - j)) tAb tTen) [2]
def tCells (K : PySem.W.Frag) : TE := tLc (iList K (tVar 0)) (gName 2) tYes tAb [2]
def tBegun (K : PySem.W.Frag) : TS := tSeq (tAsg (tLarge K) (gName 1)) (tRet (tDisp [(tC (.str "large"), tVar 1), (tC (.str "rest"), tC (.int 0)), (tC (.str "cells"), tCells K), (tC (.str "turn"), tC (.int 0))]))
theorem ok_begun {CX : CXT} {k : Nat} (F : FunD K "_law_begun" "_law_begun" (defArgs sBeg) (defBody sBeg) (defScope sBeg) [] [] f fd) (gA : mg "abs" = none) : FnOk P w K mg base CX (k + 1) f fd ["script"] (spBeg K) := by
  refine F.ok scB (fun vs H Q E h => ?_) (fun cdv A outer s H vs Q E hr h => ⟨tBegun K, ?_, ?_⟩)
  · obtain ⟨a, ns, rfl, _⟩ := h
    rfl
  · have hu : (A.deeper (envOfC "_law_begun" (defScope sBeg) s.heap.objs.size f cdv)).units + 65 < cLine := by have := hr.un; omega
    have e1 : PS (cxOf CX P w K mg base ["script", "large", "cell"] "_law_begun" (defScope sBeg) f cdv A outer s H E) ((defBody sBeg).getD 0 (.Pass ⟨0, 0, 0, 0⟩)) (tAsg (tLarge K) (gName 1)) :=
      ps_setLc (i := 1) (own := [("cell", 2)]) rfl scB.nd rfl rfl (sw_true rfl rfl rfl (by decide)) (pi_list (pv 0)) (blkOk_by (by rfl)) (fun s H C cl fp => pg_name (i := 2) scB.nd rfl (.inl rfl))
        (fun s H C cl fp => pts_one (pt_cmpR (op_cmp hu .ge) (pe_callB call_abs rfl gA boot_abs (pa_cons (pv 2) pa_nil)) (pe_op op_pow pe_int pe_int) (nomark _)))
        (fun s H C cl fp => pe_op op_sub (pe_callB call_abs rfl gA boot_abs (pa_cons (pv 2) pa_nil)) (pe_op op_pow pe_int pe_int))
    have e2 : PS (cxOf CX P w K mg base ["script", "large", "cell"] "_law_begun" (defScope sBeg) f cdv A outer s H E) ((defBody sBeg).getD 1 (.Pass ⟨0, 0, 0, 0⟩)) (tRet (tDisp [(tC (.str "large"), tVar 1), (tC (.str "rest"), tC (.int 0)), (tC (.str "cells"), tCells K), (tC (.str "turn"), tC (.int 0))])) :=
      ps_ret (pe_disp (pps_cons pe_str (pv 1) (pps_cons pe_str pe_int (pps_cons pe_str (pe_lc (own := [("cell", 2)]) rfl scB.nd (pi_list (pv 0)) (blkOk_by (by rfl)) (fun s H C cl fp => pg_name (i := 2) scB.nd rfl (.inl rfl))
        (fun s H C cl fp => pts_nil) (fun s H C cl fp => pe_callB call_abs rfl gA boot_abs (pa_cons (pv 2) pa_nil))) (pps_cons pe_str pe_int pps_nil)))) rfl rfl (by decide) (by decide))
    exact pss_cons e1 (pss_one e2)
  · obtain ⟨a, ns, rfl, hS, hz, hq⟩ := h
    unfold tBegun tSeq tAsg tLarge
    refine lc_ints (σ := L2.start ["script", "large", "cell"] [.ref a]) (s := 0) (i := 2) (p := fun i => decide (10 ^ 18 ≤ absI i)) (f := fun i => absI i - 10 ^ 18) rfl hS hz (show 2 < 3 by decide) (fun z H1 Q1 q => ?_) (fun z H1 Q1 q => ?_) fun l hl => ?_
    · exact ab_ok rfl (ten_ok ⟨_, _, rfl, rfl, ⟨_, rfl, q⟩⟩)
    · exact ab_ok rfl (ten_ok ⟨_, _, rfl, rfl, q⟩)
    · intro d hd
      refine ⟨.ref l, rfl, ?_⟩
      dsimp only [tPairs, tC, tCells]
      refine lc_ints (σ := (L2.start ["script", "large", "cell"] [.ref a]).set 1 (some (.ref l))) (s := 0) (i := 2) (a := a) (ns := ns) (p := fun _ => true) (f := absI) rfl ?_ hz (show 2 < 3 by decide) (fun z H1 Q1 q => q) (fun z H1 Q1 q => ab_ok rfl q) fun lc hlc => ?_
      · exact sqL_new (sqL_new hS hl) hd
      · have ne : lc ≠ d := fun z => by rw [z, upd_same] at hlc; cases hlc
        have nl : lc ≠ l := fun z => by
          rw [z, upd_ne (fun y => by rw [← y, upd_same] at hd; cases hd), upd_same] at hlc
          cases hlc
        have dl : d ≠ l := fun z => by rw [z, upd_same] at hd; cases hd
        have hd' : H d = none := by rw [upd_ne dl] at hd; exact hd
        have hlc' : H lc = none := by rw [upd_ne ne, upd_ne nl] at hlc; exact hlc
        refine ⟨by rw [upd_ne (Ne.symm ne)]; exact upd_same, [(.inr "large", .ref l), (.inr "rest", .int 0), (.inr "cells", .ref lc), (.inr "turn", .int 0)], rfl, show 4 ≤ 15 by decide, ?_⟩
        have e : (ns.filter fun _ => true) = ns := List.filter_eq_self.mpr fun _ _ => rfl
        rw [e]
        exact hq l d lc hl hd' dl hlc' nl ne
end
end BA
set_option Elab.async false
set_option linter.all false
set_option maxRecDepth 100000
set_option maxHeartbeats 0
namespace BA.Ga
open PySem PySem.Spec PyProof.Rows L2 LamX BA
theorem all_ok : allB Dt.nm Dt.T Dt.lams Dt.nm.fns Dt.code Dt.ds = true := by decide +kernel
theorem m_law : mB c_law ⟨nm, T, d_law.N, true⟩ (L2.defScope (top 63)) ((L2.defBody (top 63)).drop 1) = true := by decide +kernel
/-- the law, in plain words -/
def Plain (n : Nat) : Prop := ∀ ns : List Int, ns.length ≤ 63 → (∀ z ∈ ns, Builtin.Int.intBits z ≤ 1048576) → ∃ D', evB Dt.T (callN Dt.T Dt.F n) c_law (S0 d_law.N 1 ns) (D0 ns) = some (.ok (.rt (.bl true)), D')
theorem cauS : CauS D__law_caught := by
  refine ⟨["work", "caught", "error"], L2.defArgs (top 41), L2.defScope (top 41), "work", "error", "caught", 2, 1, 0, _, _, _, _, _, _, _, _, _, _, _, _, _, _, rfl, by decide +kernel, ⟨rfl, rfl, rfl, by decide +kernel, rfl, by decide +kernel, by decide +kernel⟩, rfl, ?_, rfl, rfl, by decide, by decide, by decide, rfl, rfl, by decide, by decide, by decide, rfl⟩
  exact .inl rfl
theorem facts {n : Nat} (pl : Plain (n + 1)) {w : World} {mg : Str → Option Value} {f : Addr} {h : Heap} {K : PySem.W.Frag} (X : K.In h) (G : h.Ns mainGlobals mg) (hf : mg ("law" : Str) = some (.ref f)) (c : SaysY fnL tf (fun K => Dt.exB K && (He.Fa.glo "law").ok K) h K) :
    LawAtS lawRow w K (L2.CX pw w) (3 * (n + 1) + 3) 63 "script" mg f h := by
  have hd : ∀ D ∈ fnL, ∃ fd, FunD K D.name D.qual D.params D.body D.scope (D.dvs K) (D.kws K) (He.fAd K D.at_) fd := fun D hD => c.d.defs hD
  obtain ⟨fd, F⟩ := hd D_law (List.mem_append_right _ (List.mem_cons_self ..))
  obtain ⟨fb, FB⟩ := hd D__law_begun (List.mem_append_left _ (List.mem_append_right _ (List.mem_cons_of_mem _ (List.mem_cons_self ..))))
  have hcs : ∀ p ∈ Dt.cs K, ∃ q ∈ tf, He.cT K q = p := fun p hp => by
    obtain ⟨x, hx, e⟩ := List.mem_map.mp hp
    exact ⟨(x, none), List.mem_map.mpr ⟨x, hx, rfl⟩, e⟩
  obtain ⟨ex, exl⟩ := He.ba c.more
  obtain ⟨x1, z⟩ := He.ba ex
  obtain ⟨x2, z⟩ := He.ba z
  obtain ⟨x3, z⟩ := He.ba z
  obtain ⟨x4, z⟩ := He.ba z
  obtain ⟨x5, z⟩ := He.ba z
  obtain ⟨x6, z⟩ := He.ba z
  obtain ⟨x7, z⟩ := He.ba z
  obtain ⟨x8, z⟩ := He.ba z
  obtain ⟨x9, z⟩ := He.ba z
  obtain ⟨x10, z⟩ := He.ba z
  obtain ⟨x11, x12⟩ := He.ba z
  have gA := He.free_ok X G (List.all_eq_true.mp x2 "abs" (by decide))
  have gB := He.glo_ok X G x11
  have told : ∀ base : Heap, K.In base → base.Ns mainGlobals mg → (∀ p ∈ Dt.cs K, TabB base mg p.1 p.2) → Told Dt K w base mg D__law_caught D__law_begun := fun base KB GB hT =>
    ⟨KB, GB, ex, fun D hD => hd D (List.mem_append_left _ hD), all_ok, by decide +kernel, hT⟩
  have fl : f = He.ga K "law" := by
    have := He.glo_ok X G exl
    rw [hf] at this
    cases this
    rfl
  refine ⟨fd, Dt.cs K, spLaw Dt K d_law 1 (n + 1), fun p hp => ?_, fun p hp => ?_, fun p hp => ?_, fun s u => ?_, fun H a ns h1 h2 hT hS => ?_, fun base KB GB hT => ?_⟩
  · obtain ⟨q, hq, rfl⟩ := hcs p hp
    exact c.empty q hq
  · obtain ⟨q, hq, rfl⟩ := hcs p hp
    exact c.out q hq
  · obtain ⟨q, hq, rfl⟩ := hcs p hp
    exact PySem.W.codeHd_of_K X (c.hd q hq)
  · exact kb_to (ps := ["script"]) F (by decide +kernel) (by decide) (by decide) (by decide) s [u] rfl
  · exact ⟨a, ns, rfl, hT, hS, Nat.le_trans h1 (by decide), pl ns h1 h2, fun _ => rfl⟩
  · have tl := told base KB GB hT
    rw [fl]
    exact law_fn tl cauS (d := d_law) (di := 1) (n := n + 1) F rfl ⟨rfl, rfl, rfl, by decide +kernel, rfl, by decide +kernel, by decide +kernel⟩ rfl (by decide) (by decide +kernel) (by decide +kernel) (by decide +kernel) m_law (by decide) (ok_begun (k := 0) FB gA) (kb_binds FB (by decide +kernel) (by decide) (by decide) (by decide)) FB.kp gB (by omega)
end BA.Ga
/-! K71b -/
set_option Elab.async false
set_option linter.all false
set_option maxRecDepth 100000
set_option maxHeartbeats 0
namespace BA.Ga
open PySem BA Li
/-! ### what the defs keep -/
theorem s_is_number (n : Nat) : Sp_is_number (callN Dt.T Dt.F (n + 1) 0) := by
  have e : callN Dt.T Dt.F ((n + 0) + 1) 0 = BA.run Dt.T (callN Dt.T Dt.F (n + 0)) d_is_number := callN_run rfl
  show Sp_is_number (callN Dt.T Dt.F ((n + 0) + 1) 0)
  rw [e]
  exact ok_is_number 
theorem s_divisor_of (n : Nat) : Sp_divisor_of (callN Dt.T Dt.F (n + 1) 1) := by
  have e : callN Dt.T Dt.F ((n + 0) + 1) 1 = BA.run Dt.T (callN Dt.T Dt.F (n + 0)) d_divisor_of := callN_run rfl
  show Sp_divisor_of (callN Dt.T Dt.F ((n + 0) + 1) 1)
  rw [e]
  exact ok_divisor_of 
theorem s_ratio_of (n : Nat) : Sp_ratio_of (callN Dt.T Dt.F (n + 2) 2) := by
  have e : callN Dt.T Dt.F ((n + 1) + 1) 2 = BA.run Dt.T (callN Dt.T Dt.F (n + 1)) d_ratio_of := callN_run rfl
  show Sp_ratio_of (callN Dt.T Dt.F ((n + 1) + 1) 2)
  rw [e]
  exact ok_ratio_of (s_divisor_of n)
theorem s_is_ratio (n : Nat) : Sp_is_ratio (callN Dt.T Dt.F (n + 2) 3) := by
  have e : callN Dt.T Dt.F ((n + 1) + 1) 3 = BA.run Dt.T (callN Dt.T Dt.F (n + 1)) d_is_ratio := callN_run rfl
  show Sp_is_ratio (callN Dt.T Dt.F ((n + 1) + 1) 3)
  rw [e]
  exact ok_is_ratio (s_divisor_of n) (s_is_number n)
theorem s_sum_of (n : Nat) : Sp_add (callN Dt.T Dt.F (n + 3) 4) := by
  have e : callN Dt.T Dt.F ((n + 2) + 1) 4 = BA.run Dt.T (callN Dt.T Dt.F (n + 2)) d_sum_of := callN_run rfl
  show Sp_add (callN Dt.T Dt.F ((n + 2) + 1) 4)
  rw [e]
  exact ok_sum_of (s_ratio_of n)
theorem s_less_of (n : Nat) : Sp_sub (callN Dt.T Dt.F (n + 3) 5) := by
  have e : callN Dt.T Dt.F ((n + 2) + 1) 5 = BA.run Dt.T (callN Dt.T Dt.F (n + 2)) d_less_of := callN_run rfl
  show Sp_sub (callN Dt.T Dt.F ((n + 2) + 1) 5)
  rw [e]
  exact ok_less_of (s_ratio_of n)
theorem s_product_of (n : Nat) : Sp_mul (callN Dt.T Dt.F (n + 3) 6) := by
  have e : callN Dt.T Dt.F ((n + 2) + 1) 6 = BA.run Dt.T (callN Dt.T Dt.F (n + 2)) d_product_of := callN_run rfl
  show Sp_mul (callN Dt.T Dt.F ((n + 2) + 1) 6)
  rw [e]
  exact ok_product_of (s_ratio_of n)
theorem s_is_below (n : Nat) : Sp_lt (callN Dt.T Dt.F (n + 1) 7) := by
  have e : callN Dt.T Dt.F ((n + 0) + 1) 7 = BA.run Dt.T (callN Dt.T Dt.F (n + 0)) d_is_below := callN_run rfl
  show Sp_lt (callN Dt.T Dt.F ((n + 0) + 1) 7)
  rw [e]
  exact ok_is_below 
theorem s_is_short (n : Nat) : Sp_is_short (callN Dt.T Dt.F (n + 1) 8) := by
  have e : callN Dt.T Dt.F ((n + 0) + 1) 8 = BA.run Dt.T (callN Dt.T Dt.F (n + 0)) d_is_short := callN_run rfl
  show Sp_is_short (callN Dt.T Dt.F ((n + 0) + 1) 8)
  rw [e]
  exact ok_is_short ⟨_, rfl⟩
theorem s_number_from (n : Nat) : Sp_number_from (callN Dt.T Dt.F (n + 1) 9) := by
  have e : callN Dt.T Dt.F ((n + 0) + 1) 9 = BA.run Dt.T (callN Dt.T Dt.F (n + 0)) d_number_from := callN_run rfl
  show Sp_number_from (callN Dt.T Dt.F ((n + 0) + 1) 9)
  rw [e]
  exact ok_number_from ⟨_, rfl⟩ ⟨_, rfl⟩
theorem s_numbers_from (n : Nat) : Sp_numbers_from (callN Dt.T Dt.F (n + 2) 10) := by
  have e : callN Dt.T Dt.F ((n + 1) + 1) 10 = BA.run Dt.T (callN Dt.T Dt.F (n + 1)) d_numbers_from := callN_run rfl
  show Sp_numbers_from (callN Dt.T Dt.F ((n + 1) + 1) 10)
  rw [e]
  exact ok_numbers_from (s_number_from n)
theorem s_ratio_word (n : Nat) : Sp_ratio_word (callN Dt.T Dt.F (n + 1) 11) := by
  have e : callN Dt.T Dt.F ((n + 0) + 1) 11 = BA.run Dt.T (callN Dt.T Dt.F (n + 0)) d_ratio_word := callN_run rfl
  show Sp_ratio_word (callN Dt.T Dt.F ((n + 0) + 1) 11)
  rw [e]
  exact ok_ratio_word 
theorem s_ratio_from (n : Nat) : Sp_ratio_from (callN Dt.T Dt.F (n + 3) 12) := by
  have e : callN Dt.T Dt.F ((n + 2) + 1) 12 = BA.run Dt.T (callN Dt.T Dt.F (n + 2)) d_ratio_from := callN_run rfl
  show Sp_ratio_from (callN Dt.T Dt.F ((n + 2) + 1) 12)
  rw [e]
  exact ok_ratio_from (s_is_ratio n) (s_numbers_from n) (s_ratio_word (n + 1))
theorem s_is_short_ratio (n : Nat) : Sp_is_short_ratio (callN Dt.T Dt.F (n + 3) 13) := by
  have e : callN Dt.T Dt.F ((n + 2) + 1) 13 = BA.run Dt.T (callN Dt.T Dt.F (n + 2)) d_is_short_ratio := callN_run rfl
  show Sp_is_short_ratio (callN Dt.T Dt.F ((n + 2) + 1) 13)
  rw [e]
  exact ok_is_short_ratio (s_is_ratio n) (s_is_short (n + 1))
theorem s_is_triple (n : Nat) : Sp_is_triple (callN Dt.T Dt.F (n + 3) 14) := by
  have e : callN Dt.T Dt.F ((n + 2) + 1) 14 = BA.run Dt.T (callN Dt.T Dt.F (n + 2)) d_is_triple := callN_run rfl
  show Sp_is_triple (callN Dt.T Dt.F ((n + 2) + 1) 14)
  rw [e]
  exact ok_is_triple (s_is_ratio n)
theorem s_goes_on (n : Nat) : Sp_goes_on (callN Dt.T Dt.F (n + 4) 15) := by
  have e : callN Dt.T Dt.F ((n + 3) + 1) 15 = BA.run Dt.T (callN Dt.T Dt.F (n + 3)) d_goes_on := callN_run rfl
  show Sp_goes_on (callN Dt.T Dt.F ((n + 3) + 1) 15)
  rw [e]
  exact ok_goes_on (s_is_below (n + 2)) (s_less_of n) (s_product_of n) (s_sum_of n)
theorem s_is_profile_of (n : Nat) : Sp_is_profile_of (callN Dt.T Dt.F (n + 5) 16) := by
  have e : callN Dt.T Dt.F ((n + 4) + 1) 16 = BA.run Dt.T (callN Dt.T Dt.F (n + 4)) d_is_profile_of := callN_run rfl
  show Sp_is_profile_of (callN Dt.T Dt.F ((n + 4) + 1) 16)
  rw [e]
  exact ok_is_profile_of (s_goes_on n) (s_is_below (n + 3)) (s_is_triple (n + 1)) ⟨_, rfl⟩ ⟨_, rfl⟩
theorem s_triple_from (n : Nat) : Sp_triple_from (callN Dt.T Dt.F (n + 4) 17) := by
  have e : callN Dt.T Dt.F ((n + 3) + 1) 17 = BA.run Dt.T (callN Dt.T Dt.F (n + 3)) d_triple_from := callN_run rfl
  show Sp_triple_from (callN Dt.T Dt.F ((n + 3) + 1) 17)
  rw [e]
  exact ok_triple_from (s_ratio_from n)
theorem s_profile_line (n : Nat) : Sp_line (callN Dt.T Dt.F (n + 2) 18) := by
  have e : callN Dt.T Dt.F ((n + 1) + 1) 18 = BA.run Dt.T (callN Dt.T Dt.F (n + 1)) d_profile_line := callN_run rfl
  show Sp_line (callN Dt.T Dt.F ((n + 1) + 1) 18)
  rw [e]
  exact ok_profile_line (s_ratio_word n)
theorem s_profile_text (n : Nat) : Sp_profile_text 2 (callN Dt.T Dt.F (n + 6) 19) := by
  have e : callN Dt.T Dt.F ((n + 5) + 1) 19 = BA.run Dt.T (callN Dt.T Dt.F (n + 5)) d_profile_text := callN_run rfl
  show Sp_profile_text 2 (callN Dt.T Dt.F ((n + 5) + 1) 19)
  rw [e]
  exact ok_profile_text (s_is_profile_of n) (s_is_short_ratio (n + 2)) (s_profile_line (n + 3))
theorem s_read_profile (n : Nat) : Sp_read_profile 1 (callN Dt.T Dt.F (n + 6) 20) := by
  have e : callN Dt.T Dt.F ((n + 5) + 1) 20 = BA.run Dt.T (callN Dt.T Dt.F (n + 5)) d_read_profile := callN_run rfl
  show Sp_read_profile 1 (callN Dt.T Dt.F ((n + 5) + 1) 20)
  rw [e]
  exact ok_read_profile (s_is_profile_of n) (s_triple_from (n + 1))
theorem s__law_mixed (n : Nat) : Sp_mixed (callN Dt.T Dt.F (n + 1) 21) := by
  have e : callN Dt.T Dt.F ((n + 0) + 1) 21 = BA.run Dt.T (callN Dt.T Dt.F (n + 0)) d__law_mixed := callN_run rfl
  show Sp_mixed (callN Dt.T Dt.F ((n + 0) + 1) 21)
  rw [e]
  exact ok__law_mixed 
theorem s__law_take (n : Nat) : Sp_take (callN Dt.T Dt.F (n + 2) 22) := by
  have e : callN Dt.T Dt.F ((n + 1) + 1) 22 = BA.run Dt.T (callN Dt.T Dt.F (n + 1)) d__law_take := callN_run rfl
  show Sp_take (callN Dt.T Dt.F ((n + 1) + 1) 22)
  rw [e]
  exact ok__law_take (s__law_mixed n)
theorem s__law_pick (n : Nat) : Sp_pick (callN Dt.T Dt.F (n + 3) 23) := by
  have e : callN Dt.T Dt.F ((n + 2) + 1) 23 = BA.run Dt.T (callN Dt.T Dt.F (n + 2)) d__law_pick := callN_run rfl
  show Sp_pick (callN Dt.T Dt.F ((n + 2) + 1) 23)
  rw [e]
  exact ok__law_pick (s__law_take n)
theorem s__law_shuffled (n : Nat) : Sp_shuffled (callN Dt.T Dt.F (n + 3) 24) := by
  have e : callN Dt.T Dt.F ((n + 2) + 1) 24 = BA.run Dt.T (callN Dt.T Dt.F (n + 2)) d__law_shuffled := callN_run rfl
  show Sp_shuffled (callN Dt.T Dt.F ((n + 2) + 1) 24)
  rw [e]
  exact ok__law_shuffled (s__law_take n)
theorem s__law_common (n : Nat) : Sp__law_common (callN Dt.T Dt.F (n + 1) 25) := by
  have e : callN Dt.T Dt.F ((n + 0) + 1) 25 = BA.run Dt.T (callN Dt.T Dt.F (n + 0)) d__law_common := callN_run rfl
  show Sp__law_common (callN Dt.T Dt.F ((n + 0) + 1) 25)
  rw [e]
  exact ok__law_common 
theorem s__law_ratio (n : Nat) : Sp_ratio_of (callN Dt.T Dt.F (n + 2) 26) := by
  have e : callN Dt.T Dt.F ((n + 1) + 1) 26 = BA.run Dt.T (callN Dt.T Dt.F (n + 1)) d__law_ratio := callN_run rfl
  show Sp_ratio_of (callN Dt.T Dt.F ((n + 1) + 1) 26)
  rw [e]
  exact ok__law_ratio (s__law_common n)
theorem s__law_plus (n : Nat) : Sp_add (callN Dt.T Dt.F (n + 3) 27) := by
  have e : callN Dt.T Dt.F ((n + 2) + 1) 27 = BA.run Dt.T (callN Dt.T Dt.F (n + 2)) d__law_plus := callN_run rfl
  show Sp_add (callN Dt.T Dt.F ((n + 2) + 1) 27)
  rw [e]
  exact ok__law_plus (s__law_ratio n)
theorem s__law_times (n : Nat) : Sp_mul (callN Dt.T Dt.F (n + 3) 28) := by
  have e : callN Dt.T Dt.F ((n + 2) + 1) 28 = BA.run Dt.T (callN Dt.T Dt.F (n + 2)) d__law_times := callN_run rfl
  show Sp_mul (callN Dt.T Dt.F ((n + 2) + 1) 28)
  rw [e]
  exact ok__law_times (s__law_ratio n)
theorem s__law_above (n : Nat) : Sp_gt (callN Dt.T Dt.F (n + 1) 29) := by
  have e : callN Dt.T Dt.F ((n + 0) + 1) 29 = BA.run Dt.T (callN Dt.T Dt.F (n + 0)) d__law_above := callN_run rfl
  show Sp_gt (callN Dt.T Dt.F ((n + 0) + 1) 29)
  rw [e]
  exact ok__law_above 
theorem s__law_minus (n : Nat) : Sp_sub (callN Dt.T Dt.F (n + 3) 30) := by
  have e : callN Dt.T Dt.F ((n + 2) + 1) 30 = BA.run Dt.T (callN Dt.T Dt.F (n + 2)) d__law_minus := callN_run rfl
  show Sp_sub (callN Dt.T Dt.F ((n + 2) + 1) 30)
  rw [e]
  exact ok__law_minus (s__law_ratio n)
theorem s__law_kinds (n : Nat) : Sp_kinds (callN Dt.T Dt.F (n + 1) 32) := by
  have e : callN Dt.T Dt.F ((n + 0) + 1) 32 = BA.run Dt.T (callN Dt.T Dt.F (n + 0)) d__law_kinds := callN_run rfl
  show Sp_kinds (callN Dt.T Dt.F ((n + 0) + 1) 32)
  rw [e]
  exact ok__law_kinds 
theorem s__law_says (n : Nat) : Sp_says (callN Dt.T Dt.F (n + 2) 31) := by
  have e : callN Dt.T Dt.F ((n + 1) + 1) 31 = BA.run Dt.T (callN Dt.T Dt.F (n + 1)) d__law_says := callN_run rfl
  show Sp_says (callN Dt.T Dt.F ((n + 1) + 1) 31)
  rw [e]
  exact ok__law_says (s__law_kinds n)
theorem s__law_is_number (n : Nat) : Sp_is_number (callN Dt.T Dt.F (n + 1) 33) := by
  have e : callN Dt.T Dt.F ((n + 0) + 1) 33 = BA.run Dt.T (callN Dt.T Dt.F (n + 0)) d__law_is_number := callN_run rfl
  show Sp_is_number (callN Dt.T Dt.F ((n + 0) + 1) 33)
  rw [e]
  exact ok__law_is_number 
theorem s__law_is_ratio (n : Nat) : Sp_is_ratio (callN Dt.T Dt.F (n + 2) 34) := by
  have e : callN Dt.T Dt.F ((n + 1) + 1) 34 = BA.run Dt.T (callN Dt.T Dt.F (n + 1)) d__law_is_ratio := callN_run rfl
  show Sp_is_ratio (callN Dt.T Dt.F ((n + 1) + 1) 34)
  rw [e]
  exact ok__law_is_ratio (s__law_common n) (s__law_is_number n)
theorem s__law_are_ratios (n : Nat) : Sp_are_ratios (callN Dt.T Dt.F (n + 3) 35) := by
  have e : callN Dt.T Dt.F ((n + 2) + 1) 35 = BA.run Dt.T (callN Dt.T Dt.F (n + 2)) d__law_are_ratios := callN_run rfl
  show Sp_are_ratios (callN Dt.T Dt.F ((n + 2) + 1) 35)
  rw [e]
  exact ok__law_are_ratios (s__law_is_ratio n)
theorem s__law_is_profile (n : Nat) : Sp_law_profile (callN Dt.T Dt.F (n + 4) 36) := by
  have e : callN Dt.T Dt.F ((n + 3) + 1) 36 = BA.run Dt.T (callN Dt.T Dt.F (n + 3)) d__law_is_profile := callN_run rfl
  show Sp_law_profile (callN Dt.T Dt.F ((n + 3) + 1) 36)
  rw [e]
  exact ok__law_is_profile (s__law_above (n + 2)) (s__law_are_ratios n) (s__law_minus n) (s__law_plus n) (s__law_times n)
theorem s__law_from_top (n : Nat) : Sp_from_top (callN Dt.T Dt.F (n + 4) 37) := by
  have e : callN Dt.T Dt.F ((n + 3) + 1) 37 = BA.run Dt.T (callN Dt.T Dt.F (n + 3)) d__law_from_top := callN_run rfl
  show Sp_from_top (callN Dt.T Dt.F ((n + 3) + 1) 37)
  rw [e]
  exact ok__law_from_top (s__law_minus n) (s__law_plus n) (s__law_times n)
theorem s__law_triples (n : Nat) : Sp_triples (callN Dt.T Dt.F (n + 5) 38) := by
  have e : callN Dt.T Dt.F ((n + 4) + 1) 38 = BA.run Dt.T (callN Dt.T Dt.F (n + 4)) d__law_triples := callN_run rfl
  show Sp_triples (callN Dt.T Dt.F ((n + 4) + 1) 38)
  rw [e]
  exact ok__law_triples (s__law_from_top n) (s__law_pick (n + 1)) (s__law_plus (n + 1)) (s__law_ratio (n + 2)) (s__law_shuffled (n + 1)) (s__law_take (n + 2))
theorem s__law_figures (n : Nat) : Sp_number_from (callN Dt.T Dt.F (n + 1) 39) := by
  have e : callN Dt.T Dt.F ((n + 0) + 1) 39 = BA.run Dt.T (callN Dt.T Dt.F (n + 0)) d__law_figures := callN_run rfl
  show Sp_number_from (callN Dt.T Dt.F ((n + 0) + 1) 39)
  rw [e]
  exact ok__law_figures 
theorem s__law_ratio_word (n : Nat) : Sp_ratio_word (callN Dt.T Dt.F (n + 1) 40) := by
  have e : callN Dt.T Dt.F ((n + 0) + 1) 40 = BA.run Dt.T (callN Dt.T Dt.F (n + 0)) d__law_ratio_word := callN_run rfl
  show Sp_ratio_word (callN Dt.T Dt.F ((n + 0) + 1) 40)
  rw [e]
  exact ok__law_ratio_word 
theorem s__law_ratio_of (n : Nat) : Sp_ratio_from (callN Dt.T Dt.F (n + 3) 41) := by
  have e : callN Dt.T Dt.F ((n + 2) + 1) 41 = BA.run Dt.T (callN Dt.T Dt.F (n + 2)) d__law_ratio_of := callN_run rfl
  show Sp_ratio_from (callN Dt.T Dt.F ((n + 2) + 1) 41)
  rw [e]
  exact ok__law_ratio_of (s__law_figures (n + 1)) (s__law_is_ratio n) (s__law_ratio_word (n + 1))
theorem s__law_line (n : Nat) : Sp_line (callN Dt.T Dt.F (n + 2) 42) := by
  have e : callN Dt.T Dt.F ((n + 1) + 1) 42 = BA.run Dt.T (callN Dt.T Dt.F (n + 1)) d__law_line := callN_run rfl
  show Sp_line (callN Dt.T Dt.F ((n + 1) + 1) 42)
  rw [e]
  exact ok__law_line (s__law_ratio_word n)
theorem s__law_is_short (n : Nat) : Sp_law_short (callN Dt.T Dt.F (n + 1) 43) := by
  have e : callN Dt.T Dt.F ((n + 0) + 1) 43 = BA.run Dt.T (callN Dt.T Dt.F (n + 0)) d__law_is_short := callN_run rfl
  show Sp_law_short (callN Dt.T Dt.F ((n + 0) + 1) 43)
  rw [e]
  exact ok__law_is_short 
theorem s__law_bent (n : Nat) : Sp_bent (callN Dt.T Dt.F (n + 4) 44) := by
  have e : callN Dt.T Dt.F ((n + 3) + 1) 44 = BA.run Dt.T (callN Dt.T Dt.F (n + 3)) d__law_bent := callN_run rfl
  show Sp_bent (callN Dt.T Dt.F ((n + 3) + 1) 44)
  rw [e]
  exact ok__law_bent (s__law_pick n) (s__law_take (n + 1))
theorem s__law_is_read (n : Nat) : Sp_is_read (callN Dt.T Dt.F (n + 7) 45) := by
  have e : callN Dt.T Dt.F ((n + 6) + 1) 45 = BA.run Dt.T (callN Dt.T Dt.F (n + 6)) d__law_is_read := callN_run rfl
  show Sp_is_read (callN Dt.T Dt.F ((n + 6) + 1) 45)
  rw [e]
  exact ok__law_is_read ⟨by decide +kernel, by decide +kernel, by decide +kernel, by decide +kernel⟩ (s__law_is_profile (n + 2)) (s__law_ratio_of (n + 3)) (s__law_says (n + 4)) (s_profile_text n) (s_read_profile n)
theorem s_law (n : Nat) (ns : List Int) (hn : ns.length ≤ 63) : Sure 1200 (evB Dt.T (callN Dt.T Dt.F (n + 7)) c_law (S0 d_law.N 1 ns)) (fun f => f = .rt (.bl true)) := law71_ok ⟨⟨[], ⟨by decide +kernel, by decide +kernel, by decide +kernel, by decide +kernel⟩⟩, ⟨by decide +kernel, by decide +kernel, by decide +kernel, by decide +kernel⟩, (s__law_bent (n + 3)), (s__law_from_top (n + 3)), (s__law_is_read n), (s__law_is_short (n + 6)), (s__law_line (n + 5)), (s__law_pick (n + 4)), (s__law_says (n + 5)), (s__law_triples (n + 2)), (s_profile_text (n + 1)), (s_read_profile (n + 1))⟩ ns hn
theorem plain : Plain (6 + 1) := fun ns hn _ => by
  obtain ⟨a, D', h, e, _⟩ := s_law 0 ns hn (D0 ns) 0 (Nat.le_refl 0) (by decide)
  subst e
  rw [Nat.zero_add] at h
  exact ⟨D', h⟩
end BA.Ga
open PySem PySem.W PySem.Calls PyProof.Rows
theorem BA.law_holds_of {n : Nat} (hn : L2.Room (3 * (n + 1) + 3) callerA) (pl : BA.Ga.Plain (n + 1)) : PySem.Challenge.rw_bestatall_k71_whole_texts_of_profiles.Holds := by
  w_on; o_law
  refine HandSHeadRun.head_any (r := OpenLaw.row PySem.Challenge.rw_bestatall_k71_whole_texts_of_profiles) (q := view (OpenLaw.row PySem.Challenge.rw_bestatall_k71_whole_texts_of_profiles).prog [63]) (H := BA.Ga.hk) (ob := BA.Ga.ob) (M := 3000) (loose := BA.Ga.loose)
    (d := HandSHeadRun.topDef (OpenLaw.row PySem.Challenge.rw_bestatall_k71_whole_texts_of_profiles).prog 63) (kwd := []) BA.Ga.ob_eq
    (by kernel_rfl) (fun s => by kernel_rfl) BA.Ga.run (by kernel_rfl) (by kernel_rfl) (by kernel_rfl) (by rfl) (by first | assumption | decide +kernel) (by decide +kernel) ⟨rfl, rfl, rfl, rfl, rfl, by decide +kernel⟩ ?hw ?hc
  case hw => w_witness2
  case hc =>
    refine LamX.walk_ofTsE (l := PySem.Challenge.rw_bestatall_k71_whole_texts_of_profiles) (n := 63) (k := 3 * (n + 1) + 3) (x := "script") (CX := fun w => L2.CX BA.Ga.pw w) rfl (by decide) (by kernel_rfl) hn ?F (fun w H s e s' z => ?_)
    · intro w mg fa h Y G hmg0
      obtain ⟨K, KX, c⟩ := Y
      have hmg : mg ("law" : PySem.Str) = some (.ref fa) := by
        have e : (HandSHeadRun.topDef (OpenLaw.row PySem.Challenge.rw_bestatall_k71_whole_texts_of_profiles).prog 63).name = ("law" : PySem.Str) := by kernel_rfl
        rw [← e]
        exact hmg0
      exact ⟨K, KX, BA.Ga.facts pl KX G hmg c⟩
    · obtain ⟨_, _, _, _, _, _, _, _, _, _, _, _, z⟩ := z
      exact z
theorem PySem.Challenge.cw_bestatall_k71_whole_texts_of_profiles_holds : PySem.Challenge.rw_bestatall_k71_whole_texts_of_profiles.Holds := by
  exact BA.law_holds_of (n := 6) ⟨by decide +kernel, by decide +kernel, by decide +kernel⟩ BA.Ga.plain
