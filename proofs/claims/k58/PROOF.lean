import PyProof.Rows.All
import Wide.All
import OpenK.AllK
import Wide.FinOn
import KE.DataMinMax
import KE.DataFind
import KE.DataAny
import KE.DataIsa
import KE.SortData
import KE.SortCalls
import HandS.ForMost
import HandS.ForExc
import HandS.TupAny
import HandS.Star
import HandS.Deep
import HandS.Defaults
import HandS.Wide
import HandS.Set
import HandS.SetFor
import HandS.SortInts
import HandS.IsInst
import HandS.DictTup
import HandS.Zip
import KE.KDictDisplayH
import HandS.Style
import HandS.Strs
import HandS.HeadEnd
import HandS.Ends
import HandS.Head0
import HandS.Head1
import HandS.Head2
import HandS.HeadHook1
import HandS.HeadHook2
import PySem.Challenge.RW_wrongplaces_k58_whole_spreads
section
set_option Elab.async false
set_option linter.all false
set_option maxRecDepth 100000
/-! W1: the data level. Values are PyData; what a construct does is a function of the slots. -/
namespace WP
open PySem
open PySem.W (alike dataLt minD maxD)

abbrev D := PyData
/-- an exception of the program's own: its class's name, what it carries -/
inductive Exc where
  | mk (c : Str) (v : Option D)
inductive Out (α : Type) where
  | ok (a : α)
  | exc (e : Exc)
  | bad
def Out.bind {α β : Type} (o : Out α) (f : α → Out β) : Out β := match o with
  | .ok a => f a
  | .exc e => .exc e
  | .bad => .bad
instance : Monad Out where
  pure := Out.ok
  bind := Out.bind
@[simp] theorem ok_bind {α β : Type} (a : α) (f : α → Out β) : (Out.ok a).bind f = f a := rfl
@[simp] theorem bad_bind {α β : Type} (f : α → Out β) : (Out.bad : Out α).bind f = .bad := rfl
@[simp] theorem exc_bind {α β : Type} (e : Exc) (f : α → Out β) : (Out.exc e : Out α).bind f = .exc e := rfl
def Out.wp {α : Type} (o : Out α) (P : α → Prop) (R : Exc → Prop) : Prop := match o with
  | .ok a => P a
  | .exc e => R e
  | .bad => False
theorem Out.wp_bind {α β : Type} {o : Out α} {f : α → Out β} {P : β → Prop} {R : Exc → Prop} (h : (o.bind f).wp P R) : o.wp (fun a => (f a).wp P R) R := by
  cases o <;> exact h
theorem Out.wp_imp {α : Type} {o : Out α} {P P' : α → Prop} {R R' : Exc → Prop} (h : o.wp P R) (hP : ∀ a, o = .ok a → P a → P' a) (hR : ∀ e, R e → R' e) : o.wp P' R' := by
  cases o with
  | ok a => exact hP a rfl h
  | exc e => exact hR e h
  | bad => exact h

/-- how a slot holds its value: plain; a list of its own; a list that was handed in to be changed; a dict of its own, by flat keys or by tuples -/
inductive Kd where
  | p | m | q | dk | dt
  deriving DecidableEq
structure Sl where
  k : Kd
  d : D
abbrev Env := List (Option Sl)
/-- a value, or a slot that is looked at -/
inductive BR where
  | val (d : D)
  | slot (i : Nat)
abbrev EF := Env → Out (D × Env)
abbrev BF := Env → Out (BR × Env)
abbrev AF := Env → Out (List BR × Env)
abbrev TF := Env → Out (Bool × Env)
inductive Fl where
  | nx | bk | ct
  | rt (d : D)
abbrev SF := Env → Out (Fl × Env)
abbrev GF := D → Env → Out Env
abbrev IF := Env → Out (List D × Env)

def deref (r : BR) (env : Env) : Out D := match r with
  | .val d => .ok d
  | .slot i => match env[i]? with
    | some (some sl) => .ok sl.d
    | _ => .bad
def derefs (rs : List BR) (env : Env) : Out (List D) := match rs with
  | [] => .ok []
  | r :: rs => (deref r env).bind fun d => (derefs rs env).bind fun ds => .ok (d :: ds)
def valsOf (rs : List BR) : Out (List D) := match rs with
  | [] => .ok []
  | .val d :: rs => (valsOf rs).bind fun ds => .ok (d :: ds)
  | .slot _ :: _ => .bad

/-! ### expressions -/
def eC (d : D) : EF := fun env => .ok (d, env)
def eVar (i : Nat) : EF := fun env => match env[i]? with
  | some (some ⟨.p, d⟩) => .ok (d, env)
  | _ => .bad
/-- a list or dict of one's own, from here on never changed -/
def eFrz (i : Nat) : EF := fun env => match env[i]? with
  | some (some ⟨.m, d⟩) => .ok (d, env.set i (some ⟨.p, d⟩))
  | some (some ⟨.dk, d⟩) => .ok (d, env.set i (some ⟨.p, d⟩))
  | some (some ⟨.dt, d⟩) => .ok (d, env.set i (some ⟨.p, d⟩))
  | _ => .bad
def bV (f : EF) : BF := fun env => (f env).bind fun p => .ok (.val p.1, p.2)
def bS (i : Nat) : BF := fun env => match env[i]? with
  | some (some _) => .ok (.slot i, env)
  | _ => .bad
def aNil : AF := fun env => .ok ([], env)
def aCons (f : BF) (g : AF) : AF := fun env => (f env).bind fun p => (g p.2).bind fun q => .ok (p.1 :: q.1, q.2)
/-- what is defined, or nothing is said -/
def opt {α : Type} (o : Option α) : Out α := match o with
  | some a => .ok a
  | none => .bad
@[simp] theorem opt_some {α : Type} (a : α) : opt (some a) = .ok a := rfl
@[simp] theorem opt_none {α : Type} : opt (none : Option α) = .bad := rfl
/-- an operator -/
def eOp (op : D → D → Option D) (f g : BF) : EF := fun env => (f env).bind fun p => (g p.2).bind fun q => (deref p.1 q.2).bind fun d => (deref q.1 q.2).bind fun d' => (opt (op d d')).bind fun r => .ok (r, q.2)
def eUn (op : D → Option D) (f : BF) : EF := fun env => (f env).bind fun p => (deref p.1 p.2).bind fun d => (opt (op d)).bind fun r => .ok (r, p.2)
/-- a built-in called -/
def eB (op : List D → Option D) (f : AF) : EF := fun env => (f env).bind fun p => (derefs p.1 p.2).bind fun ds => (opt (op ds)).bind fun r => .ok (r, p.2)
/-- a method of a value -/
def eM (op : D → List D → Option D) (f : BF) (g : AF) : EF := fun env => (f env).bind fun p => (g p.2).bind fun q => (deref p.1 q.2).bind fun d => (derefs q.1 q.2).bind fun ds => (opt (op d ds)).bind fun r => .ok (r, q.2)
/-- a def called, all arguments plain -/
def eCall (g : List D → Out D) (f : AF) : EF := fun env => (f env).bind fun p => (valsOf p.1).bind fun ds => (g ds).bind fun r => .ok (r, p.2)
/-- .. the first one a list that it may change -/
def eCallM (g : List D → List D → Out (D × List D)) (i : Nat) (f : AF) : EF := fun env => (bS i env).bind fun _ => (f env).bind fun p => (valsOf p.1).bind fun ds => match p.2[i]? with
  | some (some ⟨.m, .list ls⟩) => (g ls ds).bind fun r => .ok (r.1, p.2.set i (some ⟨.m, .list r.2⟩))
  | some (some ⟨.q, .list ls⟩) => (g ls ds).bind fun r => .ok (r.1, p.2.set i (some ⟨.q, .list r.2⟩))
  | _ => .bad
def eIf (t : TF) (f g : EF) : EF := fun env => (t env).bind fun p => if p.1 = true then f p.2 else g p.2
def eAnd (f g : EF) : EF := fun env => (f env).bind fun p => match p.1 with
  | .bool true => g p.2
  | .bool false => .ok (.bool false, p.2)
  | _ => .bad
def eOr (f g : EF) : EF := fun env => (f env).bind fun p => match p.1 with
  | .bool false => g p.2
  | .bool true => .ok (.bool true, p.2)
  | _ => .bad
def eNot (f : EF) : EF := fun env => (f env).bind fun p => match p.1 with
  | .bool b => .ok (.bool (!b), p.2)
  | _ => .bad
/-- a op b op' c, b asked once -/
def eChain (op op' : D → D → Option D) (f g h : BF) : EF := fun env => (f env).bind fun p => (g p.2).bind fun q => (deref p.1 q.2).bind fun d => (deref q.1 q.2).bind fun d' => (opt (op d d')).bind fun r => match r with
  | .bool true => (h q.2).bind fun t => (deref q.1 t.2).bind fun d' => (deref t.1 t.2).bind fun d'' => (opt (op' d' d'')).bind fun r => .ok (r, t.2)
  | .bool false => .ok (.bool false, q.2)
  | _ => .bad
def eTup (f : AF) : EF := fun env => (f env).bind fun p => (valsOf p.1).bind fun ds => if ds.length ≤ 16777216 then .ok (.tuple ds, p.2) else .bad
def eLst (f : AF) : EF := fun env => (f env).bind fun p => (valsOf p.1).bind fun ds => if ds.length ≤ 16777216 then .ok (.list ds, p.2) else .bad
/-- *e among items -/
def itemsOf : D → Out (List D)
  | .list xs => .ok xs
  | .tuple xs => .ok xs
  | _ => .bad
def aStar (f : BF) (g : AF) : AF := fun env => (f env).bind fun p => (deref p.1 p.2).bind fun d => (itemsOf d).bind fun xs => (g p.2).bind fun q => .ok (xs.map BR.val ++ q.1, q.2)

/-! ### tests -/
def tB (f : EF) : TF := fun env => (f env).bind fun p => match p.1 with
  | .bool b => .ok (b, p.2)
  | _ => .bad
def tAnd (f g : TF) : TF := fun env => (f env).bind fun p => if p.1 = true then g p.2 else .ok (false, p.2)
def tOr (f g : TF) : TF := fun env => (f env).bind fun p => if p.1 = true then .ok (true, p.2) else g p.2
def tNot (f : TF) : TF := fun env => (f env).bind fun p => .ok (!p.1, p.2)
def tTrue : TF := fun env => .ok (true, env)

/-! ### what is walked -/
def iSeq (f : EF) : IF := fun env => (f env).bind fun p => (itemsOf p.1).bind fun xs => .ok (xs, p.2)
def rangeD (a b : Int) : List D := (List.range (b - a).toNat).map fun i => .int (a + (i : Nat))
def small (a : Int) : Bool := decide (-16777216 ≤ a) && decide (a ≤ 16777216)
def iRange1 (f : EF) : IF := fun env => (f env).bind fun p => match p.1 with
  | .int n => if small n = true then .ok (rangeD 0 n, p.2) else .bad
  | _ => .bad
def iRange2 (f g : EF) : IF := fun env => (f env).bind fun p => (g p.2).bind fun q => match p.1, q.1 with
  | .int a, .int b => if small a = true ∧ small b = true then .ok (rangeD a b, q.2) else .bad
  | _, _ => .bad
/-- n, n - 1, .., m + 1 -/
def downD (a b : Int) : List D := (List.range (a - b).toNat).map fun i => .int (a + (i : Nat) * (-1))
def iDown (f g : EF) : IF := fun env => (f env).bind fun p => (g p.2).bind fun q => match p.1, q.1 with
  | .int a, .int b => if small a = true ∧ small b = true then .ok (downD a b, q.2) else .bad
  | _, _ => .bad
def enumD (xs : List D) : List D := xs.zipIdx.map fun p => .tuple [.int (p.2 : Nat), p.1]
def iEnum (f : EF) : IF := fun env => (iSeq f env).bind fun p => .ok (enumD p.1, p.2)
def zipD (xs ys : List D) : List D := (xs.zip ys).map fun p => .tuple [p.1, p.2]
def iZip (f g : EF) : IF := fun env => (f env).bind fun p => (g p.2).bind fun q => (itemsOf p.1).bind fun xs => (itemsOf q.1).bind fun ys => .ok (zipD xs ys, q.2)
/-- a dict's keys, its pairs -/
def iKeys (f : EF) : IF := fun env => (f env).bind fun p => match p.1 with
  | .dict kvs => .ok (kvs.map (·.1), p.2)
  | _ => .bad
def iItems (f : EF) : IF := fun env => (f env).bind fun p => match p.1 with
  | .dict kvs => .ok (kvs.map (fun kv => .tuple [kv.1, kv.2]), p.2)
  | _ => .bad

/-! ### targets -/
def gName (i : Nat) : GF := fun d env => if i < env.length then .ok (env.set i (some ⟨.p, d⟩)) else .bad
def gAll (gs : List GF) (ds : List D) (env : Env) : Out Env := match gs, ds with
  | [], [] => .ok env
  | g :: gs, d :: ds => (g d env).bind (gAll gs ds)
  | _, _ => .bad
/-- (a, b, ..) = -/
def gTup (gs : List GF) : GF := fun d env => match d with
  | .tuple ds => if ds.length = gs.length then gAll gs ds env else .bad
  | _ => .bad
/-- a place, counted from behind where it is below 0 -/
def ixOf (n : Nat) (i : Int) : Option Nat := if 0 ≤ i then (if i < n then some i.toNat else none) else if -(n : Int) ≤ i then some (i + n).toNat else none
/-- xs[k] = , xs a list of one's own -/
def gIx (i : Nat) (f : EF) : GF := fun d env => (f env).bind fun p => match p.1, p.2[i]? with
  | .int k, some (some ⟨.m, .list ls⟩) => (opt (ixOf ls.length k)).bind fun j => .ok (p.2.set i (some ⟨.m, .list (ls.set j d)⟩))
  | .int k, some (some ⟨.q, .list ls⟩) => (opt (ixOf ls.length k)).bind fun j => .ok (p.2.set i (some ⟨.q, .list (ls.set j d)⟩))
  | _, _ => .bad
/-- keys: flat ones, tuples of flat ones -/
def keyF : D → Bool
  | .int _ => true
  | .str _ => true
  | _ => false
def keyT : D → Bool
  | .tuple ds => ds.all keyF
  | _ => false
def dGet (kvs : List (D × D)) (k : D) : Option D := (kvs.find? fun p => PyData.eqv p.1 k).map (·.2)
def dPut (kvs : List (D × D)) (k v : D) : List (D × D) := if (kvs.any fun p => PyData.eqv p.1 k) = true then kvs.map (fun p => if PyData.eqv p.1 k then (p.1, v) else p) else kvs ++ [(k, v)]
def gDic (i : Nat) (f : EF) : GF := fun d env => (f env).bind fun p => match p.2[i]? with
  | some (some ⟨.dk, .dict kvs⟩) => if keyF p.1 = true ∧ kvs.length < 16777216 then .ok (p.2.set i (some ⟨.dk, .dict (dPut kvs p.1 d)⟩)) else .bad
  | some (some ⟨.dt, .dict kvs⟩) => if keyT p.1 = true ∧ kvs.length < 16777216 then .ok (p.2.set i (some ⟨.dt, .dict (dPut kvs p.1 d)⟩)) else .bad
  | _ => .bad

/-! ### comprehensions -/
def wipeE (env : Env) : List Nat → Env
  | [] => env
  | v :: vs => (wipeE env vs).set v none
/-- behind a comprehension: its own names are as before -/
def backE (old new : Env) : List Nat → Env
  | [] => new
  | v :: vs => (backE old new vs).set v (match old[v]? with
    | some (some ⟨.p, d⟩) => some ⟨.p, d⟩
    | _ => none)
def compLoop (own : List Nat) (g : GF) (t : TF) (f : EF) : List D → List D → Env → Out (List D × Env)
  | [], acc, env => .ok (acc, env)
  | x :: xs, acc, env => (g x env).bind fun e1 => (t e1).bind fun p => if p.1 = true
    then (f p.2).bind fun q => compLoop own g t f xs (acc ++ [q.1]) (wipeE q.2 own)
    else compLoop own g t f xs acc (wipeE p.2 own)
def noExc {α : Type} (o : Out α) : Out α := match o with
  | .ok a => .ok a
  | _ => .bad
def eComp (own : List Nat) (it : IF) (g : GF) (t : TF) (f : EF) : EF := fun env => (it env).bind fun p => if p.1.length ≤ 16777216 then (noExc (compLoop own g t f p.1 [] (wipeE p.2 own))).bind fun q => .ok (.list q.1, backE p.2 q.2 own) else .bad
/-- two fors: own names of the inner one are in own2 -/
def compIn (own2 : List Nat) (g : GF) (t : TF) (f : EF) : List D → List D → Env → Out (List D × Env)
  | [], acc, env => .ok (acc, env)
  | x :: xs, acc, env => (g x env).bind fun e1 => (t e1).bind fun p => if p.1 = true
    then (f p.2).bind fun q => if acc.length < 16777216 then compIn own2 g t f xs (acc ++ [q.1]) (wipeE q.2 own2) else .bad
    else compIn own2 g t f xs acc (wipeE p.2 own2)
def compOut (own own2 : List Nat) (g : GF) (t : TF) (it2 : IF) (g2 : GF) (t2 : TF) (f : EF) : List D → List D → Env → Out (List D × Env)
  | [], acc, env => .ok (acc, env)
  | x :: xs, acc, env => (g x env).bind fun e1 => (t e1).bind fun p => if p.1 = true
    then (it2 p.2).bind fun q => (compIn own2 g2 t2 f q.1 acc (wipeE q.2 own2)).bind fun r => compOut own own2 g t it2 g2 t2 f xs r.1 (wipeE r.2 own)
    else compOut own own2 g t it2 g2 t2 f xs acc (wipeE p.2 own)
def eComp2 (own own2 : List Nat) (it : IF) (g : GF) (t : TF) (it2 : IF) (g2 : GF) (t2 : TF) (f : EF) : EF := fun env => (it env).bind fun p =>
  (noExc (compOut own own2 g t it2 g2 t2 f p.1 [] (wipeE p.2 own))).bind fun q => .ok (.list q.1, backE p.2 q.2 own)

/-! ### operators and built-ins by data -/
def line : Nat := 16777216
/-- no dict in it, and nested at most so deep -/
def okN : Nat → D → Bool
  | _, .none => true
  | _, .bool _ => true
  | _, .int _ => true
  | _, .str _ => true
  | n + 1, .list xs => xs.all (okN n)
  | n + 1, .tuple xs => xs.all (okN n)
  | _, _ => false
def okD (d : D) : Bool := okN 40 d
def big (a : Int) : Bool := decide (a.natAbs < 2 ^ 64)
def mulOk (a b : Int) : Bool := big a || big b || (decide (a.natAbs < 2 ^ 3000) && decide (b.natAbs < 2 ^ 3000))
def opAdd : D → D → Option D
  | .int a, .int b => some (.int (a + b))
  | .str a, .str b => if a.length + b.length ≤ line then some (.str (a ++ b)) else none
  | .list a, .list b => if a.length + b.length ≤ line then some (.list (a ++ b)) else none
  | .tuple a, .tuple b => if a.length + b.length ≤ line then some (.tuple (a ++ b)) else none
  | _, _ => none
def opSub : D → D → Option D
  | .int a, .int b => some (.int (a - b))
  | _, _ => none
def opMul : D → D → Option D
  | .int a, .int b => if mulOk a b = true then some (.int (a * b)) else none
  | .list a, .int k => if small k = true ∧ a.length * k.toNat ≤ line then some (.list (List.replicate k.toNat a).flatten) else none
  | _, _ => none
def opDiv : D → D → Option D
  | .int a, .int b => if 0 < b ∧ b < 1073741824 then some (.int (a / b)) else none
  | _, _ => none
def opMod : D → D → Option D
  | .int a, .int b => if 0 < b then some (.int (a % b)) else none
  | _, _ => none
def opPow : D → D → Option D
  | .int a, .int b => if 0 ≤ b ∧ b ≤ 1000000 ∧ big a = true then some (.int (a ^ b.toNat)) else none
  | _, _ => none
def opNeg : D → Option D
  | .int a => some (.int (-a))
  | _ => none
def opEq (x y : D) : Option D := if okD x = true ∧ okD y = true then some (.bool (PyData.eqv x y)) else none
def opNe (x y : D) : Option D := if okD x = true ∧ okD y = true then some (.bool (!PyData.eqv x y)) else none
def ordOk (x y : D) : Bool := okD x && okD y && alike x y && (match x with | .none => false | _ => true)
def opLt : D → D → Option D
  | .int a, .int b => some (.bool (decide (a < b)))
  | x, y => if ordOk x y = true then some (.bool (dataLt x y)) else none
def opLe : D → D → Option D
  | .int a, .int b => some (.bool (decide (a ≤ b)))
  | x, y => if ordOk x y = true then some (.bool (!dataLt y x)) else none
def opGt : D → D → Option D
  | .int a, .int b => some (.bool (decide (b < a)))
  | x, y => if ordOk x y = true then some (.bool (dataLt y x)) else none
def opGe : D → D → Option D
  | .int a, .int b => some (.bool (decide (b ≤ a)))
  | x, y => if ordOk x y = true then some (.bool (!dataLt x y)) else none
/-- x in c: a list or a tuple -/
def opIn (x c : D) : Option D := match c with
  | .list ys => if okD x = true ∧ ys.all okD = true then some (.bool (ys.any fun y => PyData.eqv y x)) else none
  | .tuple ys => if okD x = true ∧ ys.all okD = true then some (.bool (ys.any fun y => PyData.eqv y x)) else none
  | _ => none
def opNotIn (x c : D) : Option D := match opIn x c with
  | some (.bool b) => some (.bool (!b))
  | _ => none
/-- x in d, d a dict by tuples -/
def opInT (x c : D) : Option D := match c with
  | .dict kvs => if keyT x = true then some (.bool (dGet kvs x).isSome) else none
  | _ => none
def opNotInT (x c : D) : Option D := match c with
  | .dict kvs => if keyT x = true then some (.bool (!(dGet kvs x).isSome)) else none
  | _ => none
def isNone : D → Bool
  | .none => true
  | _ => false
def opIsN (x y : D) : Option D := match y with
  | .none => some (.bool (isNone x))
  | _ => none
def opNotN (x y : D) : Option D := match y with
  | .none => some (.bool (!isNone x))
  | _ => none
def opIx : D → D → Option D
  | .list xs, .int i => (ixOf xs.length i).bind fun j => xs[j]?
  | .tuple xs, .int i => (ixOf xs.length i).bind fun j => xs[j]?
  | _, _ => none
/-- d[k], d a dict by tuples -/
def opIxT : D → D → Option D
  | .dict kvs, k => if keyT k = true then dGet kvs k else none
  | _, _ => none
/-- one argument -/
def one (f : D → Option D) : List D → Option D
  | [x] => f x
  | _ => none
def two (f : D → D → Option D) : List D → Option D
  | [x, y] => f x y
  | _ => none
def bLen : D → Option D
  | .list xs => some (.int (xs.length : Nat))
  | .tuple xs => some (.int (xs.length : Nat))
  | _ => none
def bAbs : D → Option D
  | .int a => some (.int (if a < 0 then -a else a))
  | _ => none
def bInt : D → Option D
  | .int a => some (.int a)
  | _ => none
def bList : D → Option D
  | .list xs => some (.list xs)
  | .tuple xs => some (.list xs)
  | _ => none
def bTuple : D → Option D
  | .list xs => some (.tuple xs)
  | .tuple xs => some (.tuple xs)
  | _ => none
def bDivmod : D → D → Option D
  | .int a, .int b => if 0 < b ∧ b < 1073741824 then some (.tuple [.int (a / b), .int (a % b)]) else none
  | _, _ => none
def bMax2 : D → D → Option D
  | .int a, .int b => some (.int (if b > a then b else a))
  | _, _ => none
def bMin2 : D → D → Option D
  | .int a, .int b => some (.int (if b < a then b else a))
  | _, _ => none
def intOf : D → Option Int
  | .int i => some i
  | _ => none
def intsOf : List D → Option (List Int)
  | [] => some []
  | d :: ds => match intOf d, intsOf ds with
    | some i, some is => some (i :: is)
    | _, _ => none
def boolOf : D → Option Bool
  | .bool i => some i
  | _ => none
def boolsOf : List D → Option (List Bool)
  | [] => some []
  | d :: ds => match boolOf d, boolsOf ds with
    | some i, some is => some (i :: is)
    | _, _ => none
def listOf : D → Option (List D)
  | .list xs => some xs
  | .tuple xs => some xs
  | _ => none
def bSum (d : D) : Option D := (listOf d).bind fun xs => (intsOf xs).bind fun is => some (.int is.sum)
def bAll (d : D) : Option D := match d with
  | .list xs => (boolsOf xs).bind fun bs => some (.bool (bs.all id))
  | _ => none
def bAny (d : D) : Option D := match d with
  | .list xs => (boolsOf xs).bind fun bs => some (.bool (bs.any id))
  | _ => none
def alikeB (xs : List D) : Bool := xs.all okD && xs.all (fun x => xs.all (alike x)) && xs.all fun x => !isNone x
/-- the first of the least, of the greatest -/
def bMin (d : D) : Option D := (listOf d).bind fun xs => match xs with
  | x :: r => if alikeB (x :: r) = true then some (minD x r) else none
  | [] => none
def bMax (d : D) : Option D := (listOf d).bind fun xs => match xs with
  | x :: r => if alikeB (x :: r) = true then some (maxD x r) else none
  | [] => none
/-- a sequence of ints, in order -/
def bSorted (d : D) : Option D := (listOf d).bind fun xs => (intsOf xs).bind fun is => some (.list ((is.mergeSort fun a b => decide (a ≤ b)).map .int))
/-- sorted(set(..)) of ints -/
def bSortSet (d : D) : Option D := (listOf d).bind fun xs => (intsOf xs).bind fun is => if is.length < 64 then some (.list (((is.mergeSort fun a b => decide (a ≤ b)).eraseDups).map .int)) else none
def bRepr (d : D) : Option D := match d with
  | .list _ => if okD d = true ∧ d.shown.length ≤ line then some (.str d.shown) else none
  | .tuple _ => if okD d = true ∧ d.shown.length ≤ line then some (.str d.shown) else none
  | _ => none
/-- isinstance: the classes that are asked for -/
def isaInt : D → Bool
  | .int _ => true
  | .bool _ => true
  | _ => false
def isaBool : D → Bool
  | .bool _ => true
  | _ => false
def isaStr : D → Bool
  | .str _ => true
  | _ => false
def isaTuple : D → Bool
  | .tuple _ => true
  | _ => false
def bIsa (p : D → Bool) (d : D) : Option D := if okD d = true then some (.bool (p d)) else none
/-- methods -/
def mCount (c : D) (xs : List D) : Option D := (listOf c).bind fun ys => match xs with
  | [x] => if okD x = true ∧ ys.all okD = true then some (.int ((ys.countP fun y => PyData.eqv y x : Nat) : Int)) else none
  | _ => none
/-- slices -/
def partOf : D → Option (Option Int)
  | .int i => some (some i)
  | .none => some none
  | _ => none
def sIx (n d : Nat) : Option Int → Nat
  | none => d
  | some v => if v < 0 then (v + (n : Int)).toNat else min v.toNat n
def cutD (xs : List D) (lo hi : Option Int) : List D := (xs.drop (sIx xs.length 0 lo)).take (sIx xs.length xs.length hi - sIx xs.length 0 lo)
/-- xs[lo:hi]; what is left out is None -/
def eSlice (f : BF) (lo hi : EF) : EF := fun env => (f env).bind fun p => (lo p.2).bind fun q => (hi q.2).bind fun r => (opt (partOf q.1)).bind fun l => (opt (partOf r.1)).bind fun h => (deref p.1 r.2).bind fun d => match d with
  | .list xs => .ok (.list (cutD xs l h), r.2)
  | .tuple xs => .ok (.tuple (cutD xs l h), r.2)
  | _ => .bad
/-- xs[::-1] -/
def bRev : D → Option D
  | .list xs => some (.list xs.reverse)
  | .tuple xs => some (.tuple xs.reverse)
  | _ => none
/-- xs.pop(k), xs.pop() -/
def ePopAt (i : Nat) (f : EF) : EF := fun env => (bS i env).bind fun _ => (f env).bind fun p => match p.1, p.2[i]? with
  | .int k, some (some ⟨.m, .list ls⟩) => (opt (ixOf ls.length k)).bind fun j => (opt ls[j]?).bind fun d => if small k = true then .ok (d, p.2.set i (some ⟨.m, .list (ls.eraseIdx j)⟩)) else .bad
  | _, _ => .bad
def ePop (i : Nat) : EF := fun env => match env[i]? with
  | some (some ⟨.m, .list ls⟩) => (opt ls[ls.length - 1]?).bind fun d => .ok (d, env.set i (some ⟨.m, .list ls.dropLast⟩))
  | _ => .bad

/-! ### statements -/
def sNext : SF := fun env => .ok (.nx, env)
def sSeq (f g : SF) : SF := fun env => (f env).bind fun p => match p.1 with
  | .nx => g p.2
  | r => .ok (r, p.2)
def sDrop (f : EF) : SF := fun env => (f env).bind fun p => .ok (.nx, p.2)
def sRet (f : EF) : SF := fun env => (f env).bind fun p => .ok (.rt p.1, p.2)
def sRetN : SF := fun env => .ok (.rt .none, env)
def sIf (t : TF) (f g : SF) : SF := fun env => (t env).bind fun p => if p.1 = true then f p.2 else g p.2
def sSet (i : Nat) (f : EF) : SF := fun env => (f env).bind fun p => (gName i p.1 p.2).bind fun e => .ok (.nx, e)
def sAsg (g : GF) (f : EF) : SF := fun env => (f env).bind fun p => (g p.1 p.2).bind fun e => .ok (.nx, e)
/-- a new list (dict) of one's own -/
def sNew (i : Nat) (k : Kd) (f : EF) : SF := fun env => (f env).bind fun p => if i < p.2.length then .ok (.nx, p.2.set i (some ⟨k, p.1⟩)) else .bad
/-- raised: never met -/
def sNever : SF := fun _ => .bad
def wipeS (fg : List Nat) (r : Out (Fl × Env)) : Out (Fl × Env) := r.bind fun p => .ok (p.1, wipeE p.2 fg)
/-- for: fg are names that are forgotten behind each turn -/
def forLoop (fg : List Nat) (g : GF) (b : SF) : List D → Env → Out (Fl × Env)
  | [], env => .ok (.nx, env)
  | x :: xs, env => (g x env).bind fun e1 => (b e1).bind fun p => match p.1 with
    | .nx => forLoop fg g b xs (wipeE p.2 fg)
    | .ct => forLoop fg g b xs (wipeE p.2 fg)
    | .bk => .ok (.nx, wipeE p.2 fg)
    | .rt d => .ok (.rt d, p.2)
def sFor (fg : List Nat) (it : IF) (g : GF) (b : SF) : SF := fun env => (it env).bind fun p => forLoop fg g b p.1 p.2
def whileLoop (fg : List Nat) (t : TF) (b : SF) : Nat → Env → Out (Fl × Env)
  | 0, _ => .bad
  | n + 1, env => (t env).bind fun p => if p.1 = true then (b p.2).bind fun q => match q.1 with
    | .nx => whileLoop fg t b n (wipeE q.2 fg)
    | .ct => whileLoop fg t b n (wipeE q.2 fg)
    | .bk => .ok (.nx, wipeE q.2 fg)
    | .rt d => .ok (.rt d, q.2)
    else .ok (.nx, p.2)
def sWhile (fg : List Nat) (fuel : Env → Nat) (t : TF) (b : SF) : SF := fun env => whileLoop fg t b (fuel env) env
/-- one's own list, dict is handed back -/
def sRetOwn (k : Kd) (i : Nat) : SF := fun env => match env[i]? with
  | some (some ⟨k', d⟩) => if k' = k then .ok (.rt d, env) else .bad
  | _ => .bad
def sAppend (i : Nat) (f : EF) : SF := fun env => (f env).bind fun p => match p.2[i]? with
  | some (some ⟨.m, .list ls⟩) => if ls.length < 16777216 then .ok (.nx, p.2.set i (some ⟨.m, .list (ls ++ [p.1])⟩)) else .bad
  | some (some ⟨.q, .list ls⟩) => if ls.length < 16777216 then .ok (.nx, p.2.set i (some ⟨.q, .list (ls ++ [p.1])⟩)) else .bad
  | _ => .bad

/-! ### defs -/
/-- the slots at the entry -/
def entry (n : Nat) (ds : List D) : Env := ds.map (fun d => some ⟨.p, d⟩) ++ List.replicate (n - ds.length) none
def entryM (n : Nat) (ls : List D) (ds : List D) : Env := some ⟨.q, .list ls⟩ :: (ds.map (fun d => some ⟨.p, d⟩) ++ List.replicate (n - 1 - ds.length) none)
def outOf (o : Out (Fl × Env)) : Out D := o.bind fun p => match p.1 with
  | .nx => .ok .none
  | .rt d => .ok d
  | _ => .bad
def defP (n k : Nat) (b : SF) : List D → Out D := fun ds => if ds.length = k ∧ k ≤ n then outOf (b (entry n ds)) else .bad
def defN (n k : Nat) (b : SF) : List D → Out D := fun ds => if ds.length = k ∧ k ≤ n then (b (entry n ds)).bind fun (p : Fl × Env) => (match p.1 with
  | .rt d => .ok d
  | _ => .bad) else .bad
def defM (n k : Nat) (b : SF) : List D → List D → Out (D × List D) := fun ls ds => if ds.length + 1 = k ∧ k ≤ n then (b (entryM n ls ds)).bind fun (p : Fl × Env) => match (p.2[(0 : Nat)]? : Option (Option Sl)) with
  | some (some ⟨.q, .list ls'⟩) => (match p.1 with
    | .nx => .ok (.none, ls')
    | .rt d => .ok (d, ls')
    | _ => .bad)
  | _ => .bad else .bad
end WP
end
section
set_option Elab.async false
set_option linter.all false
set_option maxRecDepth 100000
/-! W2: which data a value of the abstract heap is; slots and data together. -/
namespace WP
open PySem PySem.Spec PyProof.Rows L2

/-- a tuple without a dict of its own, tracked -/
def TupT (H : Hp) (a : Addr) (xs : List V) : Prop := ∃ o : Obj, H a = some (.frz o (.tup xs)) ∧ o.dict = none
/-- .. or of the module's own -/
def TupK (K : PySem.W.Frag) (a : Addr) (xs : List V) : Prop :=
  ∃ (o : Obj) (its : Array Value) (n : Nat), K.lookup a = some o ∧ o.cls = .type "tuple" ∧ o.dict = none ∧ o.data = .seq its n ∧ its.size ≤ sizeLine ∧ Vals xs its.toList
def LstK (K : PySem.W.Frag) (a : Addr) (xs : List V) : Prop :=
  ∃ (o : Obj) (its : Array Value) (n : Nat), K.lookup a = some o ∧ o.cls = .type "list" ∧ o.dict = none ∧ o.data = .seq its n ∧ its.size ≤ sizeLine ∧ Vals xs its.toList

/-- what does not change: the program, the world, the written part -/
structure Wd where
  P : Program
  w : World
  K : PySem.W.Frag
/-- a key's datum -/
def keyD : Key → D
  | .inl i => .int i
  | .inr x => .str x
/-- a tuple that is a key -/
def KyT (W : Wd) (H : Hp) (O : Addr → Prop) (b : Addr) (ks : List Key) : Prop := (TupT H b (ks.map kV) ∧ ¬ O b) ∨ TupK W.K b (ks.map kV)
/-- a dict whose keys are tuples of ints and texts: its object is known -/
def DTr (W : Wd) (H : Hp) (O : Addr → Prop) (a : Addr) (l : List (List Key × V)) : Prop :=
  l.length ≤ sizeLine ∧ (a == sysModules) = false ∧ ∃ (o : Obj) (es : Array DictEntry) (ep : Nat) (xs : List (List Key × Addr × Value)),
    H a = some (.ext fun h => h.get? a = some o) ∧ o.ExactDict ∧ o.dict = none ∧ o.data = .dict es ep ∧ es.toList = xs.map (entryOfKey (tupleKind (mixKind W.P W.w))) ∧ (xs.map (·.1)).Nodup ∧
    Paired (fun (p : List Key × V) (q : List Key × Addr × Value) => p.1 = q.1 ∧ KyT W H O q.2.1 p.1 ∧ RelV p.2 q.2.2) l xs

mutual
/-- v reads as d; no list and no dict in it stands at an address of O -/
inductive Dq (W : Wd) (H : Hp) (O : Addr → Prop) : V → D → Prop where
  | non : Dq W H O .non .none
  | bl (b : Bool) : Dq W H O (.bl b) (.bool b)
  | int (i : Int) : Dq W H O (.int i) (.int i)
  | str (x : Str) : Dq W H O (.str x) (.str x)
  | lst {a : Addr} {xs : List V} {ds : List D} : Rd H a (.lst xs) → ¬ O a → DqA W H O xs ds → xs.length ≤ sizeLine → Dq W H O (.ref a) (.list ds)
  | lstK {a : Addr} {xs : List V} {ds : List D} : LstK W.K a xs → DqA W H O xs ds → Dq W H O (.ref a) (.list ds)
  | tup {a : Addr} {xs : List V} {ds : List D} : TupT H a xs → ¬ O a → DqA W H O xs ds → xs.length ≤ sizeLine → Dq W H O (.ref a) (.tuple ds)
  | tupK {a : Addr} {xs : List V} {ds : List D} : TupK W.K a xs → DqA W H O xs ds → Dq W H O (.ref a) (.tuple ds)
  | dk {a : Addr} {l : List (Key × V)} {kvs : List (D × D)} : H a = some (.dK l) → ¬ O a → kvs.map (·.1) = l.map (fun p => keyD p.1) → DqA W H O (l.map (·.2)) (kvs.map (·.2)) → Dq W H O (.ref a) (.dict kvs)
  | dt {a : Addr} {l : List (List Key × V)} {kvs : List (D × D)} : DTr W H O a l → ¬ O a → kvs.map (·.1) = l.map (fun p => .tuple (p.1.map keyD)) → DqA W H O (l.map (·.2)) (kvs.map (·.2)) → Dq W H O (.ref a) (.dict kvs)
inductive DqA (W : Wd) (H : Hp) (O : Addr → Prop) : List V → List D → Prop where
  | nil : DqA W H O [] []
  | cons {v : V} {vs : List V} {d : D} {ds : List D} : Dq W H O v d → DqA W H O vs ds → DqA W H O (v :: vs) (d :: ds)
end

/-- from H, O to H', O': what is not at O stands as it stood; O' has nothing of what stood outside O -/
structure Stp (O : Addr → Prop) (H : Hp) (O' : Addr → Prop) (H' : Hp) : Prop where
  keep : ∀ b o, H b = some o → ¬ O b → H' b = some o
  sub : ∀ b, O' b → O b ∨ H b = none
theorem Stp.refl {O : Addr → Prop} {H : Hp} : Stp O H O H := ⟨fun _ _ e _ => e, fun _ h => .inl h⟩
theorem Stp.trans {O O1 O2 : Addr → Prop} {H H1 H2 : Hp} (a : Stp O H O1 H1) (b : Stp O1 H1 O2 H2) : Stp O H O2 H2 := by
  refine ⟨fun c o e n => b.keep c o (a.keep c o e n) fun h => ?_, fun c h => ?_⟩
  · rcases a.sub c h with q | q
    · exact n q
    · rw [q] at e; cases e
  · rcases b.sub c h with q | q
    · exact a.sub c q
    · by_cases hO : O c
      · exact .inl hO
      · refine .inr ?_
        cases e : H c with
        | none => rfl
        | some o => have := a.keep c o e hO; rw [q] at this; cases this
theorem Stp.same {O : Addr → Prop} {H H' : Hp} (s : ∀ b o, H b = some o → H' b = some o) : Stp O H O H' := ⟨fun b o e _ => s b o e, fun _ h => .inl h⟩
theorem rd_keep {H H' : Hp} {a : Addr} {u : HO} (k : ∀ o, H a = some o → H' a = some o) (r : Rd H a u) : Rd H' a u := by
  rcases r with r | ⟨o, r⟩
  · exact .inl (k _ r)
  · exact .inr ⟨o, k _ r⟩
theorem rd_there {H : Hp} {a : Addr} {u : HO} (r : Rd H a u) : ∃ o, H a = some o := by
  rcases r with r | ⟨o, r⟩ <;> exact ⟨_, r⟩

theorem tupT_keep {H H' : Hp} {a : Addr} {xs : List V} (k : ∀ o, H a = some o → H' a = some o) (r : TupT H a xs) : TupT H' a xs := let ⟨o, e, x⟩ := r; ⟨o, k _ e, x⟩
theorem tupT_there {H : Hp} {a : Addr} {xs : List V} (r : TupT H a xs) : ∃ o, H a = some o := let ⟨_, e, _⟩ := r; ⟨_, e⟩
theorem KyT.step {W : Wd} {O O' : Addr → Prop} {H H' : Hp} {b : Addr} {ks : List Key} (s : Stp O H O' H') (k : KyT W H O b ks) : KyT W H' O' b ks := by
  rcases k with ⟨t, n⟩ | k
  · refine .inl ⟨tupT_keep (fun o e => s.keep _ o e n) t, fun h => ?_⟩
    rcases s.sub _ h with q | q
    · exact n q
    · obtain ⟨o, e⟩ := tupT_there t
      rw [q] at e; cases e
  · exact .inr k
theorem KyT.mono {W : Wd} {O O' : Addr → Prop} {H : Hp} {b : Addr} {ks : List Key} (s : ∀ a, O' a → O a) (k : KyT W H O b ks) : KyT W H O' b ks := k.imp (fun ⟨t, n⟩ => ⟨t, fun h => n (s _ h)⟩) id
theorem DTr.step {W : Wd} {O O' : Addr → Prop} {H H' : Hp} {a : Addr} {l : List (List Key × V)} (s : Stp O H O' H') (k : ∀ o, H a = some o → H' a = some o) (d : DTr W H O a l) : DTr W H' O' a l := by
  obtain ⟨z, y, o, es, ep, xs, e, x1, x2, x3, x4, x5, x6⟩ := d
  exact ⟨z, y, o, es, ep, xs, k _ e, x1, x2, x3, x4, x5, L2.Paired.mapP x6 fun p q r => ⟨r.1, r.2.1.step s, r.2.2⟩⟩
theorem DTr.mono {W : Wd} {O O' : Addr → Prop} {H : Hp} {a : Addr} {l : List (List Key × V)} (s : ∀ a, O' a → O a) (d : DTr W H O a l) : DTr W H O' a l := by
  obtain ⟨z, y, o, es, ep, xs, e, x1, x2, x3, x4, x5, x6⟩ := d
  exact ⟨z, y, o, es, ep, xs, e, x1, x2, x3, x4, x5, L2.Paired.mapP x6 fun p q r => ⟨r.1, r.2.1.mono s, r.2.2⟩⟩
theorem DTr.there {W : Wd} {O : Addr → Prop} {H : Hp} {a : Addr} {l : List (List Key × V)} (d : DTr W H O a l) : ∃ o, H a = some o := by
  obtain ⟨z, y, o, es, ep, xs, e, _⟩ := d
  exact ⟨_, e⟩
theorem stp_out {O O' : Addr → Prop} {H H' : Hp} {a : Addr} (s : Stp O H O' H') (n : ¬ O a) (t : ∃ o, H a = some o) : ¬ O' a := fun h => by
  obtain ⟨o, e⟩ := t
  rcases s.sub _ h with q | q
  · exact n q
  · rw [q] at e; cases e

mutual
theorem Dq.step {W : Wd} {O O' : Addr → Prop} {H H' : Hp} (s : Stp O H O' H') : ∀ {v : V} {d : D}, Dq W H O v d → Dq W H' O' v d
  | _, _, .non => .non
  | _, _, .bl b => .bl b
  | _, _, .int i => .int i
  | _, _, .str x => .str x
  | _, _, .lst r n a z => .lst (rd_keep (fun o e => s.keep _ o e n) r) (stp_out s n (rd_there r)) (DqA.step s a) z
  | _, _, .dk r n e a => .dk (s.keep _ _ r n) (stp_out s n ⟨_, r⟩) e (DqA.step s a)
  | _, _, .dt r n e a => .dt (r.step s fun o e => s.keep _ o e n) (stp_out s n r.there) e (DqA.step s a)
  | _, _, .lstK k a => .lstK k (DqA.step s a)
  | _, _, .tup r n a z => .tup (tupT_keep (fun o e => s.keep _ o e n) r) (stp_out s n (tupT_there r)) (DqA.step s a) z
  | _, _, .tupK k a => .tupK k (DqA.step s a)
theorem DqA.step {W : Wd} {O O' : Addr → Prop} {H H' : Hp} (s : Stp O H O' H') : ∀ {vs : List V} {ds : List D}, DqA W H O vs ds → DqA W H' O' vs ds
  | _, _, .nil => .nil
  | _, _, .cons a b => .cons (Dq.step s a) (DqA.step s b)
end
mutual
/-- fewer forbidden addresses -/
theorem Dq.mono {W : Wd} {O O' : Addr → Prop} {H : Hp} (s : ∀ a, O' a → O a) : ∀ {v : V} {d : D}, Dq W H O v d → Dq W H O' v d
  | _, _, .non => .non
  | _, _, .bl b => .bl b
  | _, _, .int i => .int i
  | _, _, .str x => .str x
  | _, _, .lst r n a z => .lst r (fun h => n (s _ h)) (DqA.mono s a) z
  | _, _, .dk r n e a => .dk r (fun h => n (s _ h)) e (DqA.mono s a)
  | _, _, .dt r n e a => .dt (r.mono s) (fun h => n (s _ h)) e (DqA.mono s a)
  | _, _, .lstK k a => .lstK k (DqA.mono s a)
  | _, _, .tup r n a z => .tup r (fun h => n (s _ h)) (DqA.mono s a) z
  | _, _, .tupK k a => .tupK k (DqA.mono s a)
theorem DqA.mono {W : Wd} {O O' : Addr → Prop} {H : Hp} (s : ∀ a, O' a → O a) : ∀ {vs : List V} {ds : List D}, DqA W H O vs ds → DqA W H O' vs ds
  | _, _, .nil => .nil
  | _, _, .cons a b => .cons (Dq.mono s a) (DqA.mono s b)
end
theorem DqA.len {W : Wd} {O : Addr → Prop} {H : Hp} : ∀ {vs : List V} {ds : List D}, DqA W H O vs ds → vs.length = ds.length
  | _, _, .nil => rfl
  | _, _, .cons _ b => by simp [DqA.len b]
theorem DqA.get {W : Wd} {O : Addr → Prop} {H : Hp} : ∀ {vs : List V} {ds : List D} {i : Nat} {d : D}, DqA W H O vs ds → ds[i]? = some d → ∃ v, vs[i]? = some v ∧ Dq W H O v d
  | _, _, _, _, .nil, e => by simp at e
  | _, _, 0, _, .cons a _, e => by simp at e; subst e; exact ⟨_, rfl, a⟩
  | _, _, i + 1, _, .cons _ b, e => by
    obtain ⟨v, h1, h2⟩ := DqA.get (i := i) b (by simpa using e)
    exact ⟨v, by simpa using h1, h2⟩
theorem DqA.getV {W : Wd} {O : Addr → Prop} {H : Hp} {vs : List V} {ds : List D} {i : Nat} {v : V} (a : DqA W H O vs ds) (e : vs[i]? = some v) : ∃ d, ds[i]? = some d ∧ Dq W H O v d := by
  have hl := a.len
  have hi : i < vs.length := (List.getElem?_eq_some_iff.mp e).1
  obtain ⟨v', h1, h2⟩ := a.get (List.getElem?_eq_getElem (show i < ds.length by omega))
  rw [e] at h1; cases h1
  exact ⟨_, List.getElem?_eq_getElem (by omega), h2⟩
theorem DqA.append {W : Wd} {O : Addr → Prop} {H : Hp} : ∀ {vs ws : List V} {ds es : List D}, DqA W H O vs ds → DqA W H O ws es → DqA W H O (vs ++ ws) (ds ++ es)
  | _, _, _, _, .nil, b => b
  | _, _, _, _, .cons a r, b => .cons a (DqA.append r b)
theorem DqA.take {W : Wd} {O : Addr → Prop} {H : Hp} : ∀ {vs : List V} {ds : List D} (n : Nat), DqA W H O vs ds → DqA W H O (vs.take n) (ds.take n)
  | _, _, 0, _ => .nil
  | _, _, _ + 1, .nil => .nil
  | _, _, n + 1, .cons a r => .cons a (DqA.take n r)
theorem DqA.drop {W : Wd} {O : Addr → Prop} {H : Hp} : ∀ {vs : List V} {ds : List D} (n : Nat), DqA W H O vs ds → DqA W H O (vs.drop n) (ds.drop n)
  | _, _, 0, r => r
  | _, _, _ + 1, .nil => .nil
  | _, _, n + 1, .cons a r => DqA.drop n r
theorem DqA.set {W : Wd} {O : Addr → Prop} {H : Hp} {v : V} {d : D} (a : Dq W H O v d) : ∀ {vs : List V} {ds : List D} (n : Nat), DqA W H O vs ds → DqA W H O (vs.set n v) (ds.set n d)
  | _, _, _, .nil => .nil
  | _, _, 0, .cons _ r => .cons a r
  | _, _, n + 1, .cons b r => .cons b (DqA.set a n r)
theorem DqA.eraseIdx {W : Wd} {O : Addr → Prop} {H : Hp} : ∀ {vs : List V} {ds : List D} (n : Nat), DqA W H O vs ds → DqA W H O (vs.eraseIdx n) (ds.eraseIdx n)
  | _, _, _, .nil => .nil
  | _, _, 0, .cons _ r => r
  | _, _, n + 1, .cons b r => .cons b (DqA.eraseIdx n r)
theorem DqA.dropLast {W : Wd} {O : Addr → Prop} {H : Hp} {vs : List V} {ds : List D} (a : DqA W H O vs ds) : DqA W H O vs.dropLast ds.dropLast := by
  rw [List.dropLast_eq_take, List.dropLast_eq_take, a.len]
  exact a.take _
theorem DqA.reverse {W : Wd} {O : Addr → Prop} {H : Hp} : ∀ {vs : List V} {ds : List D}, DqA W H O vs ds → DqA W H O vs.reverse ds.reverse
  | _, _, .nil => .nil
  | _, _, .cons a r => by
    rw [List.reverse_cons, List.reverse_cons]
    exact (DqA.reverse r).append (.cons a .nil)
theorem DqA.rep {W : Wd} {O : Addr → Prop} {H : Hp} {vs : List V} {ds : List D} (a : DqA W H O vs ds) : ∀ k : Nat, DqA W H O (List.replicate k vs).flatten (List.replicate k ds).flatten
  | 0 => .nil
  | k + 1 => by
    rw [List.replicate_succ, List.replicate_succ, List.flatten_cons, List.flatten_cons]
    exact a.append (DqA.rep a k)
theorem DqA.snoc {W : Wd} {O : Addr → Prop} {H : Hp} {vs : List V} {ds : List D} {v : V} {d : D} (a : DqA W H O vs ds) (b : Dq W H O v d) : DqA W H O (vs ++ [v]) (ds ++ [d]) := a.append (.cons b .nil)

/-- the library's relation -/
theorem sqT_of {K : PySem.W.Frag} {H : Hp} {a : Addr} {xs : List V} (h : TupT H a xs) : SqT K H a xs := let ⟨o, e, _⟩ := h; .inl (.inr ⟨o, e⟩)
theorem sqT_ofK {K : PySem.W.Frag} {H : Hp} {a : Addr} {xs : List V} (h : TupK K a xs) : SqT K H a xs := let ⟨o, its, n, e1, e2, _, e4, e5, e6⟩ := h; .inr ⟨o, its, n, e1, e2, e4, e5, e6⟩
theorem sqL_ofK {K : PySem.W.Frag} {H : Hp} {a : Addr} {xs : List V} (h : LstK K a xs) : SqL K H a xs := let ⟨o, its, n, e1, e2, e3, e4, e5, e6⟩ := h; .inr ⟨o, its, n, e1, e2, e3, e4, e5, e6⟩
theorem tupK_len {K : PySem.W.Frag} {a : Addr} {xs : List V} (h : TupK K a xs) : xs.length ≤ sizeLine := by
  obtain ⟨o, its, n, _, _, _, _, e5, e6⟩ := h
  have h1 := e6.length
  have h2 : its.toList.length = its.size := Array.length_toList
  omega
theorem lstK_len {K : PySem.W.Frag} {a : Addr} {xs : List V} (h : LstK K a xs) : xs.length ≤ sizeLine := by
  obtain ⟨o, its, n, _, _, _, _, e5, e6⟩ := h
  have h1 := e6.length
  have h2 : its.toList.length = its.size := Array.length_toList
  omega
mutual
theorem Dq.dp {W : Wd} {O : Addr → Prop} {H : Hp} : ∀ {v : V} {d : D}, Dq W H O v d → d.plain = true → Dp W.K H v d
  | _, _, .non, _ => .non
  | _, _, .bl b, _ => .bl b
  | _, _, .int i, _ => .int i
  | _, _, .str x, _ => .str x
  | _, _, .lst r _ a _, p => .lst (.inl r) (DqA.dp a (by simpa [PyData.plain] using p))
  | _, _, .lstK k a, p => .lst (sqL_ofK k) (DqA.dp a (by simpa [PyData.plain] using p))
  | _, _, .tup r _ a _, p => .tup (sqT_of r) (DqA.dp a (by simpa [PyData.plain] using p))
  | _, _, .tupK k a, p => .tup (sqT_ofK k) (DqA.dp a (by simpa [PyData.plain] using p))
  | _, _, .dk _ _ _ _, p => by simp [PyData.plain] at p
  | _, _, .dt _ _ _ _, p => by simp [PyData.plain] at p
theorem DqA.dp {W : Wd} {O : Addr → Prop} {H : Hp} : ∀ {vs : List V} {ds : List D}, DqA W H O vs ds → PyData.plainAll ds = true → DpAll W.K H vs ds
  | _, _, .nil, _ => .nil
  | _, _, .cons a b, p => by
    simp only [PyData.plainAll, Bool.and_eq_true] at p
    exact .cons (Dq.dp a p.1) (DqA.dp b p.2)
end
/-- what a list's data stands for -/
theorem Dq.listI {W : Wd} {O : Addr → Prop} {H : Hp} {v : V} {ds : List D} (h : Dq W H O v (.list ds)) : ∃ a xs, v = .ref a ∧ SqL W.K H a xs ∧ DqA W H O xs ds ∧ xs.length ≤ sizeLine := by
  cases h with
  | lst r n a z => exact ⟨_, _, rfl, .inl r, a, z⟩
  | lstK k a => exact ⟨_, _, rfl, sqL_ofK k, a, lstK_len k⟩
theorem Dq.tupI {W : Wd} {O : Addr → Prop} {H : Hp} {v : V} {ds : List D} (h : Dq W H O v (.tuple ds)) : ∃ a xs, v = .ref a ∧ SqT W.K H a xs ∧ (TupT H a xs ∨ TupK W.K a xs) ∧ DqA W H O xs ds ∧ xs.length ≤ sizeLine := by
  cases h with
  | tup r n a z => exact ⟨_, _, rfl, sqT_of r, .inl r, a, z⟩
  | tupK k a => exact ⟨_, _, rfl, sqT_ofK k, .inr k, a, tupK_len k⟩
theorem Dq.intI {W : Wd} {O : Addr → Prop} {H : Hp} {v : V} {i : Int} (h : Dq W H O v (.int i)) : v = .int i := by cases h; rfl
theorem Dq.boolI {W : Wd} {O : Addr → Prop} {H : Hp} {v : V} {b : Bool} (h : Dq W H O v (.bool b)) : v = .bl b := by cases h; rfl
theorem Dq.strI {W : Wd} {O : Addr → Prop} {H : Hp} {v : V} {x : Str} (h : Dq W H O v (.str x)) : v = .str x := by cases h; rfl
theorem Dq.noneI {W : Wd} {O : Addr → Prop} {H : Hp} {v : V} (h : Dq W H O v .none) : v = .non := by cases h; rfl
end WP
end
section
set_option Elab.async false
set_option linter.all false
set_option maxRecDepth 100000
set_option autoImplicit false
/-! W3: slots and data together (Rel); readings by data; expressions. -/
namespace WP
open PySem PySem.Spec PyProof.Rows L2

abbrev wd (X : Cx) : Wd := ⟨X.prog, X.w, X.K⟩
/-- a def's body: the heap at its entry, what it may change of it, what is forbidden to values, what is wanted of exceptions -/
structure Fx where
  H0 : Hp
  S : Addr → Prop
  Oc : Addr → Prop
  R : Exc → Prop
  /-- .p: it hands back a value; else a new list, dict of that kind -/
  fr : Kd
  /-- what a raised exception leads to -/
  E : XK
  /-- lists that are being made -/
  pn : List (Addr × HO)
abbrev Fx.pin (F : Fx) (pn : List (Addr × HO)) : Fx := { F with pn := pn }
/-- within a comprehension: nothing is raised out of it -/
abbrev Fx.inn (F : Fx) (pn : List (Addr × HO)) : Fx := { F with pn := pn, R := fun _ => False, E := fun _ _ _ => False }

/-- a list, a dict of one's own, as it stands -/
def Cell (W : Wd) (H : Hp) (O : Addr → Prop) (k : Kd) (a : Addr) (d : D) : Prop := match k with
  | .p => False
  | .m => ∃ xs ds, d = .list ds ∧ H a = some (.lst xs) ∧ DqA W H O xs ds ∧ xs.length ≤ sizeLine
  | .q => ∃ xs ds, d = .list ds ∧ H a = some (.lst xs) ∧ DqA W H O xs ds ∧ xs.length ≤ sizeLine
  | .dk => ∃ (l : List (Key × V)) (kvs : List (D × D)), d = .dict kvs ∧ H a = some (.dK l) ∧ kvs.map (·.1) = l.map (fun p => keyD p.1) ∧ DqA W H O (l.map (·.2)) (kvs.map (·.2))
  | .dt => ∃ (l : List (List Key × V)) (kvs : List (D × D)), d = .dict kvs ∧ DTr W H O a l ∧ kvs.map (·.1) = l.map (fun p => .tuple (p.1.map keyD)) ∧ DqA W H O (l.map (·.2)) (kvs.map (·.2))
theorem Cell.there {W : Wd} {H : Hp} {O : Addr → Prop} {k : Kd} {a : Addr} {d : D} (c : Cell W H O k a d) : ∃ o, H a = some o := by
  cases k with
  | p => exact c.elim
  | m => obtain ⟨_, _, _, e, _⟩ := c; exact ⟨_, e⟩
  | q => obtain ⟨_, _, _, e, _⟩ := c; exact ⟨_, e⟩
  | dk => obtain ⟨_, _, _, e, _⟩ := c; exact ⟨_, e⟩
  | dt => obtain ⟨_, _, _, e, _⟩ := c; exact e.there
theorem Cell.step {W : Wd} {H H' : Hp} {O O' : Addr → Prop} {k : Kd} {a : Addr} {d : D} (s : Stp O H O' H') (kp : ∀ o, H a = some o → H' a = some o) (c : Cell W H O k a d) : Cell W H' O' k a d := by
  cases k with
  | p => exact c.elim
  | m => obtain ⟨xs, ds, e, h, q, z⟩ := c; exact ⟨xs, ds, e, kp _ h, q.step s, z⟩
  | q => obtain ⟨xs, ds, e, h, q, z⟩ := c; exact ⟨xs, ds, e, kp _ h, q.step s, z⟩
  | dk => obtain ⟨l, kvs, e, h, e2, q⟩ := c; exact ⟨l, kvs, e, kp _ h, e2, q.step s⟩
  | dt => obtain ⟨l, kvs, e, h, e2, q⟩ := c; exact ⟨l, kvs, e, h.step s kp, e2, q.step s⟩
theorem Cell.mono {W : Wd} {H : Hp} {O O' : Addr → Prop} {k : Kd} {a : Addr} {d : D} (s : ∀ a, O' a → O a) (c : Cell W H O k a d) : Cell W H O' k a d := by
  cases k with
  | p => exact c.elim
  | m => obtain ⟨xs, ds, e, h, q, z⟩ := c; exact ⟨xs, ds, e, h, q.mono s, z⟩
  | q => obtain ⟨xs, ds, e, h, q, z⟩ := c; exact ⟨xs, ds, e, h, q.mono s, z⟩
  | dk => obtain ⟨l, kvs, e, h, e2, q⟩ := c; exact ⟨l, kvs, e, h, e2, q.mono s⟩
  | dt => obtain ⟨l, kvs, e, h, e2, q⟩ := c; exact ⟨l, kvs, e, h.mono s, e2, q.mono s⟩
/-- from now on it is a plain value -/
theorem Cell.dq {W : Wd} {H : Hp} {O : Addr → Prop} {k : Kd} {a : Addr} {d : D} (n : ¬ O a) (c : Cell W H O k a d) : Dq W H O (.ref a) d := by
  cases k with
  | p => exact c.elim
  | m => obtain ⟨xs, ds, e, h, q, z⟩ := c; subst e; exact .lst (.inl h) n q z
  | q => obtain ⟨xs, ds, e, h, q, z⟩ := c; subst e; exact .lst (.inl h) n q z
  | dk => obtain ⟨l, kvs, e, h, e2, q⟩ := c; subst e; exact .dk h n e2 q
  | dt => obtain ⟨l, kvs, e, h, e2, q⟩ := c; subst e; exact .dt h n e2 q

def SlOk (W : Wd) (F : Fx) (O : Addr → Prop) (σ : L2.St) (H : Hp) (i : Nat) (sl : Sl) : Prop :=
  ∃ v, σ[i]? = some (some v) ∧ ((sl.k = .p ∧ Dq W H O v sl.d) ∨ (sl.k ≠ .p ∧ ∃ a, v = .ref a ∧ O a ∧ Cell W H O sl.k a sl.d ∧ (sl.k = .q → F.S a) ∧ (sl.k ≠ .q → F.H0 a = none)))
structure Rel (W : Wd) (F : Fx) (O : Addr → Prop) (env : Env) (σ : L2.St) (H : Hp) : Prop where
  len : env.length = σ.length
  slot : ∀ (i : Nat) (sl : Sl), env[i]? = some (some sl) → SlOk W F O σ H i sl
  sep : ∀ (i j : Nat) (sl sl' : Sl) (a : Addr), env[i]? = some (some sl) → env[j]? = some (some sl') → sl.k ≠ .p → sl'.k ≠ .p → σ[i]? = some (some (.ref a)) → σ[j]? = some (some (.ref a)) → i = j
  dom : ∀ a, O a → ∃ o, H a = some o
  sub : ∀ a, F.Oc a → O a
  frm : ∀ a o, F.H0 a = some o → ¬ F.S a → H a = some o
  dom0 : ∀ a, F.Oc a → ∃ o, F.H0 a = some o
  ss : ∀ a, F.S a → F.Oc a
  pin : ∀ p ∈ F.pn, H p.1 = some p.2 ∧ O p.1 ∧ ∀ (i : Nat) (sl : Sl), env[i]? = some (some sl) → sl.k ≠ .p → σ[i]? ≠ some (some (.ref p.1))
section
variable {W : Wd} {F : Fx} {O O' : Addr → Prop} {env env' : Env} {σ σ' : L2.St} {H H' : Hp}
abbrev SameH (H H' : Hp) : Prop := ∀ b o, H b = some o → H' b = some o
/-- the heap grows -/
theorem Rel.ext (R : Rel W F O env σ H) (s : SameH H H') (sub : ∀ b, O' b → O b ∨ H b = none) (up : ∀ a, O a → O' a) (dom : ∀ a, O' a → ∃ o, H' a = some o) : Rel W F O' env σ H' := by
  have st : Stp O H O' H' := ⟨fun b o e _ => s b o e, sub⟩
  refine ⟨R.len, fun i sl e => ?_, R.sep, dom, fun a h => up a (R.sub a h), fun a o e n => s _ _ (R.frm a o e n), R.dom0, R.ss, fun p hp => ⟨s _ _ (R.pin p hp).1, up _ (R.pin p hp).2.1, (R.pin p hp).2.2⟩⟩
  obtain ⟨v, e1, h⟩ := R.slot i sl e
  refine ⟨v, e1, ?_⟩
  rcases h with ⟨k, q⟩ | ⟨k, a, ev, oa, c, x, y⟩
  · exact .inl ⟨k, q.step st⟩
  · exact .inr ⟨k, a, ev, up a oa, c.step st (fun o e => s _ o e), x, y⟩
theorem Rel.same (R : Rel W F O env σ H) (s : SameH H H') : Rel W F O env σ H' :=
  R.ext s (fun _ h => .inl h) (fun _ h => h) fun a h => let ⟨o, e⟩ := R.dom a h; ⟨o, s _ _ e⟩
/-- .. and the new address is forbidden -/
theorem Rel.grow {p : Addr} (R : Rel W F O env σ H) (s : SameH H H') (hp : H p = none) (hp' : ∃ o, H' p = some o) : Rel W F (fun a => O a ∨ a = p) env σ H' :=
  R.ext s (fun b h => h.imp id fun e => by rw [e]; exact hp) (fun _ h => .inl h) fun a h => h.elim (fun q => let ⟨o, e⟩ := R.dom a q; ⟨o, s _ _ e⟩) fun e => by rw [e]; exact hp'
theorem SameH.upd {p : Addr} {o : HO} (hp : H p = none) : SameH H (upd H p o) := fun b u e => by
  rw [upd_ne (ne_of_none e hp)]; exact e
theorem SameH.trans {H1 H2 : Hp} (a : SameH H H1) (b : SameH H1 H2) : SameH H H2 := fun c o e => b c o (a c o e)
theorem SameH.refl : SameH H H := fun _ _ e => e
theorem new_out {p : Addr} (R : Rel W F O env σ H) (hp : H p = none) : ¬ O p := fun h => by
  obtain ⟨o, e⟩ := R.dom p h
  rw [hp] at e; cases e
/-- an own slot, as it stands -/
theorem Rel.own (R : Rel W F O env σ H) {i : Nat} {sl : Sl} (e : env[i]? = some (some sl)) (k : sl.k ≠ .p) : ∃ a, σ[i]? = some (some (.ref a)) ∧ O a ∧ Cell W H O sl.k a sl.d ∧ (sl.k = .q → F.S a) ∧ (sl.k ≠ .q → F.H0 a = none) := by
  obtain ⟨v, e1, h⟩ := R.slot i sl e
  rcases h with ⟨k', _⟩ | ⟨_, a, ev, r⟩
  · exact absurd k' k
  · subst ev; exact ⟨a, e1, r⟩
theorem Rel.plain (R : Rel W F O env σ H) {i : Nat} {d : D} (e : env[i]? = some (some ⟨.p, d⟩)) : ∃ v, σ[i]? = some (some v) ∧ Dq W H O v d := by
  obtain ⟨v, e1, h⟩ := R.slot i _ e
  rcases h with ⟨_, q⟩ | ⟨k, _⟩
  · exact ⟨v, e1, q⟩
  · exact absurd rfl k
theorem getset {α : Type} {l : List α} {i j : Nat} {x y : α} (h : (l.set i x)[j]? = some y) : (i = j ∧ i < l.length ∧ y = x) ∨ (i ≠ j ∧ l[j]? = some y) := by
  by_cases e : i = j
  · subst e
    by_cases hi : i < l.length
    · rw [List.getElem?_set_self hi] at h
      exact .inl ⟨rfl, hi, (Option.some.inj h).symm⟩
    · rw [List.set_eq_of_length_le (by omega)] at h
      exact absurd (List.getElem?_eq_some_iff.mp h).1 hi
  · rw [List.getElem?_set_ne e] at h
    exact .inr ⟨e, h⟩
/-- a plain value is stored -/
theorem Rel.put (R : Rel W F O env σ H) {i : Nat} {v : V} {d : D} (hi : i < env.length) (q : Dq W H O v d) : Rel W F O (env.set i (some ⟨.p, d⟩)) (σ.set i (some v)) H := by
  have hσ : i < σ.length := by rw [← R.len]; exact hi
  have back : ∀ {j : Nat} {sl : Sl} {a : Addr}, (env.set i (some ⟨.p, d⟩))[j]? = some (some sl) → sl.k ≠ .p → env[j]? = some (some sl) ∧ (σ.set i (some v))[j]? = σ[j]? := by
    intro j sl a h k
    rcases getset h with ⟨_, _, e⟩ | ⟨n, e⟩
    · cases e; exact absurd rfl k
    · exact ⟨e, List.getElem?_set_ne n⟩
  refine ⟨by simp [R.len], fun j sl e => ?_, fun j j' sl sl' a e e' k k' h h' => ?_, R.dom, R.sub, R.frm, R.dom0, R.ss, fun p hp => ⟨(R.pin p hp).1, (R.pin p hp).2.1, fun j sl e k => ?_⟩⟩
  rotate_right
  · obtain ⟨b1, b2⟩ := back (a := p.1) e k
    rw [b2]
    exact (R.pin p hp).2.2 j sl b1 k
  · rcases getset e with ⟨e1, _, e2⟩ | ⟨n, e⟩
    · cases e2
      subst e1
      exact ⟨v, List.getElem?_set_self hσ, .inl ⟨rfl, q⟩⟩
    · obtain ⟨u, e1, h⟩ := R.slot j sl e
      exact ⟨u, by rw [List.getElem?_set_ne n]; exact e1, h⟩
  · obtain ⟨b1, b2⟩ := back (a := a) e k
    obtain ⟨c1, c2⟩ := back (a := a) e' k'
    rw [b2] at h
    rw [c2] at h'
    exact R.sep j j' sl sl' a b1 c1 k k' h h'
/-- a slot is forgotten -/
theorem Rel.drop (R : Rel W F O env σ H) (i : Nat) : Rel W F O (env.set i none) σ H := by
  have back : ∀ {j : Nat} {sl : Sl}, (env.set i none)[j]? = some (some sl) → env[j]? = some (some sl) := by
    intro j sl h
    rcases getset h with ⟨_, _, e⟩ | ⟨n, e⟩
    · cases e
    · exact e
  exact ⟨by simp [R.len], fun j sl e => R.slot j sl (back e), fun j j' sl sl' a e e' => R.sep j j' sl sl' a (back e) (back e'), R.dom, R.sub, R.frm, R.dom0, R.ss,
    fun p hp => ⟨(R.pin p hp).1, (R.pin p hp).2.1, fun j sl e k => (R.pin p hp).2.2 j sl (back e) k⟩⟩
theorem Rel.dropV (R : Rel W F O env σ H) (i : Nat) (x : Option V) : Rel W F O (env.set i none) (σ.set i x) H := by
  have back : ∀ {j : Nat} {sl : Sl}, (env.set i none)[j]? = some (some sl) → env[j]? = some (some sl) ∧ (σ.set i x)[j]? = σ[j]? := by
    intro j sl h
    rcases getset h with ⟨_, _, e⟩ | ⟨n, e⟩
    · cases e
    · exact ⟨e, List.getElem?_set_ne n⟩
  refine ⟨by simp [R.len], fun j sl e => ?_, fun j j' sl sl' a e e' k k' h h' => ?_, R.dom, R.sub, R.frm, R.dom0, R.ss, fun p hp => ⟨(R.pin p hp).1, (R.pin p hp).2.1, fun j sl e k => ?_⟩⟩
  rotate_right
  · obtain ⟨e1, e2⟩ := back e
    rw [e2]
    exact (R.pin p hp).2.2 j sl e1 k
  · obtain ⟨e1, e2⟩ := back e
    obtain ⟨v, h1, h2⟩ := R.slot j sl e1
    exact ⟨v, by rw [e2]; exact h1, h2⟩
  · obtain ⟨e1, e2⟩ := back e
    obtain ⟨e1', e2'⟩ := back e'
    rw [e2] at h
    rw [e2'] at h'
    exact R.sep j j' sl sl' a e1 e1' k k' h h'
theorem Rel.wipe (R : Rel W F O env σ H) : ∀ vs : List Nat, Rel W F O (wipeE env vs) (L2.wipe σ vs) H
  | [] => R
  | v :: vs => (R.wipe vs).dropV v none
theorem Rel.wipeS (R : Rel W F O env σ H) : ∀ vs : List Nat, Rel W F O (wipeE env vs) σ H
  | [] => R
  | v :: vs => (R.wipeS vs).drop v
/-- what is done to an own list -/
theorem Rel.putCell (R : Rel W F O env σ H) {i : Nat} {a : Addr} {k : Kd} {d d' : D} {o : HO} (e : env[i]? = some (some ⟨k, d⟩)) (kp : k ≠ .p) (ea : σ[i]? = some (some (.ref a)))
    (c : Cell W (upd H a o) O k a d') : Rel W F O (env.set i (some ⟨k, d'⟩)) σ (upd H a o) := by
  obtain ⟨a', e1, oa, ca, x, y⟩ := R.own e kp
  rw [ea] at e1; cases e1
  have hi : i < env.length := (List.getElem?_eq_some_iff.mp e).1
  have st : Stp O H O (upd H a o) := ⟨fun b u h n => by rw [upd_ne (fun q => n (by rw [q]; exact oa))]; exact h, fun _ h => .inl h⟩
  have fw : ∀ {j : Nat} {sl : Sl}, (env.set i (some ⟨k, d'⟩))[j]? = some (some sl) → sl.k ≠ .p → ∃ s0 : Sl, env[j]? = some (some s0) ∧ s0.k ≠ .p := by
    intro j sl h kk
    rcases getset h with ⟨q, _, q2⟩ | ⟨_, q⟩
    · subst q; exact ⟨_, e, kp⟩
    · exact ⟨_, q, kk⟩
  refine ⟨by simp [R.len], fun j sl ej => ?_, fun j j' sl sl' b ej ej' kj kj' h h' => ?_, fun b h => ?_, R.sub, fun b u hb n => ?_, R.dom0, R.ss, fun p hp => ⟨?_, (R.pin p hp).2.1, fun j sl e k => ?_⟩⟩
  rotate_right 2
  · have np : p.1 ≠ a := fun q => (R.pin p hp).2.2 i _ e kp (q ▸ ea)
    rw [upd_ne np]
    exact (R.pin p hp).1
  · obtain ⟨s0, a1, a2⟩ := fw e k
    exact (R.pin p hp).2.2 j s0 a1 a2
  · rcases getset ej with ⟨e1, _, e2⟩ | ⟨n, e1⟩
    · cases e2
      subst e1
      exact ⟨_, ea, .inr ⟨kp, a, rfl, oa, c, x, y⟩⟩
    · obtain ⟨v, h1, h2⟩ := R.slot j sl e1
      refine ⟨v, h1, ?_⟩
      rcases h2 with ⟨kk, q⟩ | ⟨kk, b, ev, ob, cb, xb, yb⟩
      · exact .inl ⟨kk, q.step st⟩
      · refine .inr ⟨kk, b, ev, ob, cb.step st (fun u hu => ?_), xb, yb⟩
        subst ev
        have nb : b ≠ a := fun q => by subst q; exact n (R.sep i j ⟨k, d⟩ sl b e e1 kp kk ea h1)
        rw [upd_ne nb]; exact hu
  · obtain ⟨s0, a1, a2⟩ := fw ej kj
    obtain ⟨s1, b1, b2⟩ := fw ej' kj'
    exact R.sep j j' s0 s1 b a1 b1 a2 b2 h h'
  · by_cases q : b = a
    · subst q; exact ⟨_, upd_same⟩
    · rw [upd_ne q]; exact R.dom b h
  · by_cases q : b = a
    · subst q
      by_cases kq : k = .q
      · exact absurd (x kq) n
      · rw [y kq] at hb; cases hb
    · rw [upd_ne q]; exact R.frm b u hb n
theorem stp_cell (R : Rel W F O env σ H) {i : Nat} {a : Addr} {k : Kd} {d : D} {o : HO} (e : env[i]? = some (some ⟨k, d⟩)) (kp : k ≠ .p) (ea : σ[i]? = some (some (.ref a))) : Stp O H O (upd H a o) := by
  obtain ⟨a', e1, oa, _⟩ := R.own e kp
  rw [ea] at e1; cases e1
  exact ⟨fun b u h n => by rw [upd_ne (fun q => n (by rw [q]; exact oa))]; exact h, fun _ h => .inl h⟩
/-- a new list, dict of one's own is stored -/
theorem Rel.putNew {p : Addr} (R : Rel W F O env σ H) (R' : Rel W F (fun a => O a ∨ a = p) env σ H) {i : Nat} {k : Kd} {d : D} (hi : i < env.length) (kp : k ≠ .p) (kq : k ≠ .q) (np : ¬ O p) (h0 : F.H0 p = none)
    (c : Cell W H (fun a => O a ∨ a = p) k p d) : Rel W F (fun a => O a ∨ a = p) (env.set i (some ⟨k, d⟩)) (σ.set i (some (.ref p))) H := by
  have hσ : i < σ.length := by rw [← R.len]; exact hi
  refine ⟨by simp [R.len], fun j sl e => ?_, fun j j' sl sl' a e e' k k' h h' => ?_, R'.dom, R'.sub, R'.frm, R'.dom0, R'.ss, fun t ht => ⟨(R.pin t ht).1, .inl (R.pin t ht).2.1, fun j sl e k => ?_⟩⟩
  rotate_right
  · rcases getset e with ⟨e1, _, e2⟩ | ⟨n, e⟩
    · subst e1
      rw [List.getElem?_set_self hσ]
      intro z
      cases z
      exact np (R.pin _ ht).2.1
    · rw [List.getElem?_set_ne n]
      exact (R.pin t ht).2.2 j sl e k
  · rcases getset e with ⟨e1, _, e2⟩ | ⟨n, e⟩
    · cases e2
      subst e1
      exact ⟨_, List.getElem?_set_self hσ, .inr ⟨kp, p, rfl, .inr rfl, c, fun q => absurd q kq, fun _ => h0⟩⟩
    · obtain ⟨u, e1, h⟩ := R'.slot j sl e
      exact ⟨u, by rw [List.getElem?_set_ne n]; exact e1, h⟩
  · have f : ∀ {j : Nat} {sl : Sl}, j ≠ i → env[j]? = some (some sl) → sl.k ≠ .p → σ[j]? = some (some (.ref a)) → a ≠ p := by
      intro j sl _ ej kj hj q
      obtain ⟨b, h1, h2, _⟩ := R.own ej kj
      rw [hj] at h1; cases h1
      exact np (q ▸ h2)
    rcases getset e with ⟨e1, _, e2⟩ | ⟨n, e1⟩
    · subst e1
      rw [List.getElem?_set_self hσ] at h
      cases h
      rcases getset e' with ⟨e3, _, e4⟩ | ⟨n', e3⟩
      · exact e3
      · rw [List.getElem?_set_ne n'] at h'
        exact absurd rfl (f (Ne.symm n') e3 k' h')
    · rw [List.getElem?_set_ne n] at h
      rcases getset e' with ⟨e3, _, e4⟩ | ⟨n', e3⟩
      · subst e3
        rw [List.getElem?_set_self hσ] at h'
        cases h'
        exact absurd rfl (f (Ne.symm n) e1 k h)
      · rw [List.getElem?_set_ne n'] at h'
        exact R.sep j j' sl sl' a e1 e3 k k' h h'
end
end WP
end
section
set_option Elab.async false
set_option linter.all false
set_option maxRecDepth 100000
set_option autoImplicit false
/-! W4: readings by data; names, constants, operators, calls of built-ins, displays. -/
namespace WP
open PySem PySem.Spec PyProof.Rows L2

theorem PE.imp {X : Cx} {e : Expr} {t t' : TE} (h : PE X e t) (i : ∀ σ H Q, t' σ H Q → t σ H Q) : PE X e t' := ⟨fun pins s σ H Q I q => h.run pins s σ H Q I (i σ H Q q)⟩
theorem PT.imp {X : Cx} {e : Expr} {t t' : TT} (h : PT X e t) (i : ∀ σ H Q, t' σ H Q → t σ H Q) : PT X e t' := ⟨fun pins s σ H Q I q => h.run pins s σ H Q I (i σ H Q q)⟩
theorem PW.imp {X : Cx} {e : Expr} {t t' : TT} (h : PW X e t) (i : ∀ σ H Q, t' σ H Q → t σ H Q) : PW X e t' := ⟨fun wh pins s σ H Q I q => h.run wh pins s σ H Q I (i σ H Q q)⟩
theorem PA.imp {X : Cx} {es : List Expr} {t t' : TA} (h : PA X es t) (i : ∀ σ H Q, t' σ H Q → t σ H Q) : PA X es t' := ⟨fun pos pins s σ H Q I q => h.run pos pins s σ H Q I (i σ H Q q)⟩
theorem PS.imp {X : Cx} {st : Stmt} {t t' : TS} (h : PS X st t) (i : ∀ D σ H, t' D σ H → t D σ H) : PS X st t' := ⟨fun pins s σ H D I q => h.run pins s σ H D I (i D σ H q)⟩
theorem PSs.imp {X : Cx} {st : List Stmt} {t t' : TS} (h : PSs X st t) (i : ∀ D σ H, t' D σ H → t D σ H) : PSs X st t' := ⟨fun pins s σ H D I q => h.run pins s σ H D I (i D σ H q)⟩
theorem PG.imp {X : Cx} {tg : Expr} {t t' : TG} (h : PG X tg t) (i : ∀ v σ H Q, t' v σ H Q → t v σ H Q) : PG X tg t' := ⟨fun pins s σ H v u Q I r q => h.run pins s σ H v u Q I r (i v σ H Q q)⟩

/-- an expression's reading by data -/
def rD (W : Wd) (F : Fx) (f : EF) : TE := fun σ H Q => ∃ O env, Rel W F O env σ H ∧
  (f env).wp (fun p => ∀ O' v H', Rel W F O' p.2 σ H' → Stp O H O' H' → Dq W H' O' v p.1 → Q v H') F.R
def BrOk (W : Wd) (σ : L2.St) (H : Hp) (O : Addr → Prop) (v : V) : BR → Prop
  | .val d => Dq W H O v d
  | .slot i => σ[i]? = some (some v)
def rB (W : Wd) (F : Fx) (f : BF) : TE := fun σ H Q => ∃ O env, Rel W F O env σ H ∧
  (f env).wp (fun p => ∀ O' v H', Rel W F O' p.2 σ H' → Stp O H O' H' → BrOk W σ H' O' v p.1 → Q v H') F.R
inductive BrA (W : Wd) (σ : L2.St) (H : Hp) (O : Addr → Prop) : List V → List BR → Prop
  | nil : BrA W σ H O [] []
  | cons {v : V} {vs : List V} {r : BR} {rs : List BR} : BrOk W σ H O v r → BrA W σ H O vs rs → BrA W σ H O (v :: vs) (r :: rs)
def rA (W : Wd) (F : Fx) (f : AF) : TA := fun σ H Q => ∃ O env, Rel W F O env σ H ∧
  (f env).wp (fun p => ∀ O' vs H', Rel W F O' p.2 σ H' → Stp O H O' H' → BrA W σ H' O' vs p.1 → Q vs H') F.R
def rT (W : Wd) (F : Fx) (f : TF) : TT := fun σ H Q => ∃ O env, Rel W F O env σ H ∧
  (f env).wp (fun p => ∀ O' H', Rel W F O' p.2 σ H' → Stp O H O' H' → Q p.1 H') F.R
/-- a value that may be one's own list or dict -/
inductive Bq (W : Wd) (H : Hp) (O : Addr → Prop) : V → D → Prop
  | val {v : V} {d : D} : Dq W H O v d → Bq W H O v d
  | own {k : Kd} {a : Addr} {d : D} : Cell W H O k a d → Bq W H O (.ref a) d
inductive BqA (W : Wd) (H : Hp) (O : Addr → Prop) : List V → List D → Prop
  | nil : BqA W H O [] []
  | cons {v : V} {vs : List V} {d : D} {ds : List D} : Bq W H O v d → BqA W H O vs ds → BqA W H O (v :: vs) (d :: ds)
/-- what is forbidden stands -/
def Dom (O : Addr → Prop) (H : Hp) : Prop := ∀ a, O a → ∃ o, H a = some o
/-- an operator's reading by data -/
def oD (W : Wd) (op : D → D → Option D) : R2 := fun x y H Q => ∃ O d e r, Dom O H ∧ Bq W H O x d ∧ Bq W H O y e ∧ op d e = some r ∧ ∀ v H', SameH H H' → Dq W H' O v r → Q v H'
def uD (W : Wd) (op : D → Option D) : V → Hp → VK → Prop := fun x H Q => ∃ O d r, Dom O H ∧ Bq W H O x d ∧ op d = some r ∧ ∀ v H', SameH H H' → Dq W H' O v r → Q v H'
def cD (W : Wd) (op : List D → Option D) : List V → Hp → VK → Prop := fun xs H Q => ∃ O ds r, Dom O H ∧ BqA W H O xs ds ∧ op ds = some r ∧ ∀ v H', SameH H H' → Dq W H' O v r → Q v H'
def mD (W : Wd) (op : D → List D → Option D) : V → List V → Hp → VK → Prop := fun x xs H Q => ∃ O d ds r, Dom O H ∧ Bq W H O x d ∧ BqA W H O xs ds ∧ op d ds = some r ∧ ∀ v H', SameH H H' → Dq W H' O v r → Q v H'

section
variable {W : Wd} {F : Fx} {O O' : Addr → Prop} {env env' : Env} {σ σ' : L2.St} {H H' : Hp} {v : V} {d : D}
theorem BrOk.step {r : BR} (s : Stp O H O' H') (b : BrOk W σ H O v r) : BrOk W σ H' O' v r := by
  cases r with
  | val d => exact Dq.step s b
  | slot i => exact b
theorem BrA.step (s : Stp O H O' H') : ∀ {vs : List V} {rs : List BR}, BrA W σ H O vs rs → BrA W σ H' O' vs rs
  | _, _, .nil => .nil
  | _, _, .cons a b => .cons (a.step s) (BrA.step s b)
theorem deref_ok {r : BR} (R : Rel W F O env σ H) (b : BrOk W σ H O v r) (e : deref r env = .ok d) : Bq W H O v d := by
  cases r with
  | val d' => cases e; exact .val b
  | slot i =>
    unfold deref at e
    dsimp only at e
    split at e
    · rename_i sl h
      cases e
      obtain ⟨u, h1, h2⟩ := R.slot i sl h
      have b' : σ[i]? = some (some v) := b
      rw [b'] at h1; cases h1
      rcases h2 with ⟨_, q⟩ | ⟨_, a, ev, _, c, _⟩
      · exact .val q
      · subst ev; exact .own c
    · cases e
theorem derefs_ok (R : Rel W F O env σ H) : ∀ {vs : List V} {rs : List BR} {ds : List D}, BrA W σ H O vs rs → derefs rs env = .ok ds → BqA W H O vs ds
  | _, _, _, .nil, e => by cases e; exact .nil
  | _, _, ds, .cons (r := r) (rs := rs) a b, e => by
    unfold derefs at e
    cases h : deref r env with
    | bad => rw [h] at e; cases e
    | exc x => rw [h] at e; cases e
    | ok d =>
      rw [h] at e
      cases h2 : derefs rs env with
      | bad => rw [h2] at e; cases e
      | exc x => rw [h2] at e; cases e
      | ok ds' =>
        rw [h2] at e
        cases e
        exact .cons (deref_ok R a h) (derefs_ok R b h2)
theorem deref_exc {r : BR} {e : Exc} (h : deref r env = .exc e) : False := by
  cases r with
  | val d => cases h
  | slot i =>
    unfold deref at h
    dsimp only at h
    split at h <;> cases h
theorem derefs_exc : ∀ {rs : List BR} {e : Exc}, derefs rs env = .exc e → False
  | [], _, h => by cases h
  | r :: rs, e, h => by
    unfold derefs at h
    cases h1 : deref r env with
    | bad => rw [h1] at h; cases h
    | exc x => exact deref_exc h1
    | ok d =>
      rw [h1] at h
      cases h2 : derefs rs env with
      | bad => rw [h2] at h; cases h
      | exc x => exact derefs_exc h2
      | ok ds' => rw [h2] at h; cases h
theorem valsOf_ok : ∀ {vs : List V} {rs : List BR} {ds : List D}, BrA W σ H O vs rs → valsOf rs = .ok ds → DqA W H O vs ds
  | _, _, _, .nil, e => by cases e; exact .nil
  | _, _, ds, .cons (r := r) (rs := rs) a b, e => by
    cases r with
    | slot i => cases e
    | val d =>
      unfold valsOf at e
      cases h2 : valsOf rs with
      | bad => rw [h2] at e; cases e
      | exc x => rw [h2] at e; cases e
      | ok ds' =>
        rw [h2] at e
        cases e
        exact .cons a (valsOf_ok b h2)
theorem valsOf_exc : ∀ {rs : List BR} {e : Exc}, valsOf rs = .exc e → False
  | [], _, h => by cases h
  | .slot _ :: _, _, h => by cases h
  | .val d :: rs, e, h => by
    unfold valsOf at h
    cases h2 : valsOf rs with
    | bad => rw [h2] at h; cases h
    | exc x => exact valsOf_exc h2
    | ok ds' => rw [h2] at h; cases h
/-- steps that raise nothing -/
theorem wp_deref {r : BR} {α : Type} {f : D → Out α} {P : α → Prop} {R : Exc → Prop} (h : ((deref r env).bind f).wp P R) : ∃ d, deref r env = .ok d ∧ (f d).wp P R := by
  cases e : deref r env with
  | ok d => rw [e] at h; exact ⟨d, rfl, h⟩
  | exc x => exact (deref_exc e).elim
  | bad => rw [e] at h; exact h.elim
theorem wp_derefs {rs : List BR} {α : Type} {f : List D → Out α} {P : α → Prop} {R : Exc → Prop} (h : ((derefs rs env).bind f).wp P R) : ∃ d, derefs rs env = .ok d ∧ (f d).wp P R := by
  cases e : derefs rs env with
  | ok d => rw [e] at h; exact ⟨d, rfl, h⟩
  | exc x => exact (derefs_exc e).elim
  | bad => rw [e] at h; exact h.elim
theorem wp_vals {rs : List BR} {α : Type} {f : List D → Out α} {P : α → Prop} {R : Exc → Prop} (h : ((valsOf rs).bind f).wp P R) : ∃ d, valsOf rs = .ok d ∧ (f d).wp P R := by
  cases e : valsOf rs with
  | ok d => rw [e] at h; exact ⟨d, rfl, h⟩
  | exc x => exact (valsOf_exc e).elim
  | bad => rw [e] at h; exact h.elim
theorem wp_opt {α β : Type} {o : Option α} {f : α → Out β} {P : β → Prop} {R : Exc → Prop} (h : ((opt o).bind f).wp P R) : ∃ a, o = some a ∧ (f a).wp P R := by
  cases o with
  | some a => exact ⟨a, rfl, h⟩
  | none => exact h.elim
theorem itemsOf_exc {d : D} {e : Exc} (h : itemsOf d = .exc e) : False := by
  cases d <;> cases h
theorem wp_items {α : Type} {f : List D → Out α} {P : α → Prop} {R : Exc → Prop} (h : ((itemsOf d).bind f).wp P R) : ∃ xs, itemsOf d = .ok xs ∧ (f xs).wp P R := by
  cases e : itemsOf d with
  | ok d => rw [e] at h; exact ⟨d, rfl, h⟩
  | exc x => exact (itemsOf_exc e).elim
  | bad => rw [e] at h; exact h.elim
theorem Bq.step (s : SameH H H') (b : Bq W H O v d) : Bq W H' O v d := by
  cases b with
  | val q => exact .val (q.step (.same s))
  | own c => exact .own (c.step (.same s) fun o e => s _ o e)
theorem Bq.listI {ds : List D} (h : Bq W H O v (.list ds)) : ∃ a xs, v = .ref a ∧ SqL W.K H a xs ∧ DqA W H O xs ds ∧ xs.length ≤ sizeLine := by
  cases h with
  | val q => exact q.listI
  | @own k a d c =>
    cases k with
    | p => exact c.elim
    | m => obtain ⟨xs, ds', e, h, q, z⟩ := c; cases e; exact ⟨_, xs, rfl, SqL.of h, q, z⟩
    | q => obtain ⟨xs, ds', e, h, q, z⟩ := c; cases e; exact ⟨_, xs, rfl, SqL.of h, q, z⟩
    | dk => obtain ⟨_, _, e, _⟩ := c; cases e
    | dt => obtain ⟨_, _, e, _⟩ := c; cases e
theorem Bq.tupI {ds : List D} (h : Bq W H O v (.tuple ds)) : ∃ a xs, v = .ref a ∧ SqT W.K H a xs ∧ (TupT H a xs ∨ TupK W.K a xs) ∧ DqA W H O xs ds ∧ xs.length ≤ sizeLine := by
  cases h with
  | val q => exact q.tupI
  | @own k a d c =>
    cases k with
    | p => exact c.elim
    | m => obtain ⟨_, _, e, _⟩ := c; cases e
    | q => obtain ⟨_, _, e, _⟩ := c; cases e
    | dk => obtain ⟨_, _, e, _⟩ := c; cases e
    | dt => obtain ⟨_, _, e, _⟩ := c; cases e
theorem Bq.intI {i : Int} (h : Bq W H O v (.int i)) : v = .int i := by
  cases h with
  | val q => exact q.intI
  | @own k a d c => cases k <;> first | exact c.elim | (obtain ⟨_, _, e, _⟩ := c; cases e)
theorem Bq.boolI {b : Bool} (h : Bq W H O v (.bool b)) : v = .bl b := by
  cases h with
  | val q => exact q.boolI
  | @own k a d c => cases k <;> first | exact c.elim | (obtain ⟨_, _, e, _⟩ := c; cases e)
theorem Bq.strI {x : Str} (h : Bq W H O v (.str x)) : v = .str x := by
  cases h with
  | val q => exact q.strI
  | @own k a d c => cases k <;> first | exact c.elim | (obtain ⟨_, _, e, _⟩ := c; cases e)
theorem Bq.noneI (h : Bq W H O v .none) : v = .non := by
  cases h with
  | val q => exact q.noneI
  | @own k a d c => cases k <;> first | exact c.elim | (obtain ⟨_, _, e, _⟩ := c; cases e)
theorem Bq.dp (h : Bq W H O v d) (p : d.plain = true) : Dp W.K H v d := by
  cases h with
  | val q => exact q.dp p
  | @own k a d c =>
    cases k with
    | p => exact c.elim
    | m => obtain ⟨xs, ds', e, h, q, z⟩ := c; subst e; exact .lst (SqL.of h) (q.dp (by simpa [PyData.plain] using p))
    | q => obtain ⟨xs, ds', e, h, q, z⟩ := c; subst e; exact .lst (SqL.of h) (q.dp (by simpa [PyData.plain] using p))
    | dk => obtain ⟨_, _, e, _⟩ := c; subst e; simp [PyData.plain] at p
    | dt => obtain ⟨_, _, e, _⟩ := c; subst e; simp [PyData.plain] at p
/-- a list or a tuple -/
theorem Bq.items {xs : List D} (h : Bq W H O v d) (e : itemsOf d = .ok xs) : ∃ a ys, v = .ref a ∧ (SqL W.K H a ys ∨ SqT W.K H a ys) ∧ DqA W H O ys xs ∧ ys.length ≤ sizeLine := by
  cases d with
  | list l => cases e; obtain ⟨a, ys, e1, h1, h2, h3⟩ := h.listI; exact ⟨a, ys, e1, .inl h1, h2, h3⟩
  | tuple l => cases e; obtain ⟨a, ys, e1, h1, _, h2, h3⟩ := h.tupI; exact ⟨a, ys, e1, .inr h1, h2, h3⟩
  | none => cases e
  | bool _ => cases e
  | int _ => cases e
  | str _ => cases e
  | dict _ => cases e
end

abbrev DE (X : Cx) (F : Fx) (e : Expr) (f : EF) : Prop := PE X e (rD (wd X) F f)
abbrev DB (X : Cx) (F : Fx) (e : Expr) (f : BF) : Prop := PE X e (rB (wd X) F f)
abbrev DA (X : Cx) (F : Fx) (es : List Expr) (f : AF) : Prop := PA X es (rA (wd X) F f)
abbrev DT (X : Cx) (F : Fx) (e : Expr) (f : TF) : Prop := PT X e (rT (wd X) F f)
abbrev DW (X : Cx) (F : Fx) (e : Expr) (f : TF) : Prop := PW X e (rT (wd X) F f)

section
variable {X : Cx} {F : Fx} {e a b c : Expr} {es : List Expr} {f g h : EF} {fb gb hb : BF} {fa ga : AF} {pos : Pos}
/-! ### names, constants -/
theorem de_int {i : Int} {j pos} : DE X F (.Constant (.int i) j pos) (eC (.int i)) := PE.imp pe_int fun σ H Q ⟨O, env, R, w⟩ => w O _ H R .refl (.int i)
theorem de_bl {i : Bool} {j pos} : DE X F (.Constant (.bool i) j pos) (eC (.bool i)) := PE.imp pe_bl fun σ H Q ⟨O, env, R, w⟩ => w O _ H R .refl (.bl i)
theorem de_str {i : Str} {j pos} : DE X F (.Constant (.str i) j pos) (eC (.str i)) := PE.imp pe_str fun σ H Q ⟨O, env, R, w⟩ => w O _ H R .refl (.str i)
theorem de_non {j pos} : DE X F (.Constant .none j pos) (eC .none) := PE.imp pe_non fun σ H Q ⟨O, env, R, w⟩ => w O _ H R .refl .non
theorem de_var {i : Nat} {x : Str} (hN : X.N[i]? = some x) (hv : Vis X.env.scope x) (hd : (x == ("__debug__" : Str)) = false := by decide) (hcd : (x == ("__classdict__" : Str)) = false := by decide) : DE X F (.Name x pos) (eVar i) := by
  refine PE.imp (pe_var hN hv hd hcd) fun σ H Q ⟨O, env, R, w⟩ => ?_
  unfold eVar at w
  split at w
  · rename_i d h
    obtain ⟨v, e1, q⟩ := R.plain h
    exact ⟨v, e1, w O v H R .refl q⟩
  · exact w.elim
theorem db_slot {i : Nat} {x : Str} (hN : X.N[i]? = some x) (hv : Vis X.env.scope x) (hd : (x == ("__debug__" : Str)) = false := by decide) (hcd : (x == ("__classdict__" : Str)) = false := by decide) : DB X F (.Name x pos) (bS i) := by
  refine PE.imp (pe_var hN hv hd hcd) fun σ H Q ⟨O, env, R, w⟩ => ?_
  unfold bS at w
  split at w
  · rename_i sl h
    obtain ⟨v, e1, q⟩ := R.slot _ _ h
    exact ⟨v, e1, w O v H R .refl e1⟩
  · exact w.elim
/-- a name's own list, from here on a plain value -/
theorem de_frz {i : Nat} {x : Str} (hN : X.N[i]? = some x) (hv : Vis X.env.scope x) (hd : (x == ("__debug__" : Str)) = false := by decide) (hcd : (x == ("__classdict__" : Str)) = false := by decide) : DE X F (.Name x pos) (eFrz i) := by
  refine PE.imp (pe_var hN hv hd hcd) fun σ H Q ⟨O, env, R, w⟩ => ?_
  have main : ∀ (k : Kd) (d : D), k ≠ .p → k ≠ .q → env[i]? = some (some ⟨k, d⟩) → (∀ O' v H', Rel (wd X) F O' (env.set i (some ⟨.p, d⟩)) σ H' → Stp O H O' H' → Dq (wd X) H' O' v d → Q v H') → ∃ v, σ[i]? = some (some v) ∧ Q v H := by
    intro k d kp kq e w
    obtain ⟨a, e1, oa, ca, x1, y1⟩ := R.own e kp
    have hi : i < env.length := (List.getElem?_eq_some_iff.mp e).1
    have sub : ∀ b, (O b ∧ b ≠ a) → O b := fun b h => h.1
    have q : Dq (wd X) H (fun b => O b ∧ b ≠ a) (.ref a) d := Cell.dq (fun h => h.2 rfl) (ca.mono sub)
    refine ⟨_, e1, w (fun b => O b ∧ b ≠ a) _ H ?_ ⟨fun b o h _ => h, fun b h => .inl h.1⟩ q⟩
    have fw : ∀ {j : Nat} {sl : Sl}, (env.set i (some ⟨.p, d⟩))[j]? = some (some sl) → sl.k ≠ .p → env[j]? = some (some sl) := by
      intro j sl h kk
      rcases getset h with ⟨_, _, q2⟩ | ⟨_, q1⟩
      · cases q2; exact absurd rfl kk
      · exact q1
    refine ⟨by simp [R.len], fun j sl ej => ?_, fun j j' sl sl' b ej ej' kj kj' h h' => ?_, fun b h => R.dom b h.1, fun b h => ⟨R.sub b h, fun z => ?_⟩, R.frm, R.dom0, R.ss,
      fun t ht => ⟨(R.pin t ht).1, ⟨(R.pin t ht).2.1, fun z => (R.pin t ht).2.2 i _ e kp (z ▸ e1)⟩, fun j sl ej kj => (R.pin t ht).2.2 j sl (fw ej kj) kj⟩⟩
    · rcases getset ej with ⟨q1, _, q2⟩ | ⟨n, q1⟩
      · cases q2
        subst q1
        exact ⟨_, e1, .inl ⟨rfl, q⟩⟩
      · obtain ⟨v, h1, h2⟩ := R.slot j sl q1
        refine ⟨v, h1, h2.imp (fun ⟨kk, z⟩ => ⟨kk, z.mono sub⟩) fun ⟨kk, b, ev, ob, cb, r⟩ => ⟨kk, b, ev, ⟨ob, fun z => ?_⟩, cb.mono sub, r⟩⟩
        subst z
        subst ev
        exact n (R.sep i j ⟨k, d⟩ sl b e q1 kp kk e1 h1)
    · exact R.sep j j' sl sl' b (fw ej kj) (fw ej' kj') kj kj' h h'
    · subst z
      obtain ⟨o, ho⟩ := R.dom0 _ h
      rw [y1 kq] at ho; cases ho
  unfold eFrz at w
  split at w
  · rename_i d h; exact main .m d (by decide) (by decide) h w
  · rename_i d h; exact main .dk d (by decide) (by decide) h w
  · rename_i d h; exact main .dt d (by decide) (by decide) h w
  · exact w.elim
theorem db_val (h : DE X F e f) : DB X F e (bV f) := by
  refine PE.imp h fun σ H Q ⟨O, env, R, w⟩ => ⟨O, env, R, ?_⟩
  exact Out.wp_imp (Out.wp_bind w) (fun p _ w O' v H' R' st q => w O' v H' R' st q) fun _ x => x
end
end WP
end
section
set_option Elab.async false
set_option linter.all false
set_option maxRecDepth 100000
set_option autoImplicit false
/-! W5: arguments, operators, calls by values, displays, conditions, tests. -/
namespace WP
open PySem PySem.Spec PyProof.Rows L2
section
variable {X : Cx} {F : Fx} {e a b c : Expr} {es : List Expr} {f g h : EF} {fb gb hb : BF} {fa ga : AF} {pos : Pos} {ft gt : TF}
theorem da_nil : DA X F [] aNil := PA.imp pa_nil fun σ H Q ⟨O, env, R, w⟩ => w O _ H R .refl .nil
theorem da_cons (h1 : DB X F e fb) (h2 : DA X F es fa) (hs : starEach (e :: es) X.env = (false, eval e X.env) :: starEach es X.env := by rfl) : DA X F (e :: es) (aCons fb fa) := by
  refine PA.imp (pa_cons h1 h2 hs) fun σ H Q ⟨O, env, R, w⟩ => ⟨O, env, R, ?_⟩
  refine Out.wp_imp (Out.wp_bind w) (fun p _ w O1 v H1 R1 s1 b1 => ⟨O1, p.2, R1, ?_⟩) fun _ x => x
  exact Out.wp_imp (Out.wp_bind w) (fun q _ w O2 vs H2 R2 s2 b2 => w O2 _ H2 R2 (s1.trans s2) (.cons (b1.step s2) b2)) fun _ x => x
theorem brA_vals {W : Wd} {σ : L2.St} {H : Hp} {O : Addr → Prop} : ∀ {vs : List V} {ds : List D}, DqA W H O vs ds → BrA W σ H O vs (ds.map .val)
  | _, _, .nil => .nil
  | _, _, .cons a b => .cons a (brA_vals b)
theorem brA_app {W : Wd} {σ : L2.St} {H : Hp} {O : Addr → Prop} : ∀ {vs ws : List V} {rs ts : List BR}, BrA W σ H O vs rs → BrA W σ H O ws ts → BrA W σ H O (vs ++ ws) (rs ++ ts)
  | _, _, _, _, .nil, b => b
  | _, _, _, _, .cons a r, b => .cons a (brA_app r b)
theorem da_star {p : Pos} (h1 : DB X F e fb) (h2 : DA X F es fa) (hs : starEach (.Starred e p :: es) X.env = (true, eval e X.env) :: starEach es X.env := by rfl) : DA X F (.Starred e p :: es) (aStar fb fa) := by
  refine PA.imp (StX.pa_star h1 h2 hs) fun σ H Q ⟨O, env, R, w⟩ => ⟨O, env, R, ?_⟩
  refine Out.wp_imp (Out.wp_bind w) (fun p _ w O1 v H1 R1 s1 b1 => ?_) fun _ x => x
  obtain ⟨d, e1, w⟩ := wp_deref w
  obtain ⟨xs, e2, w⟩ := wp_items w
  obtain ⟨t, ys, rfl, h1, h2, _⟩ := (deref_ok R1 b1 e1).items e2
  refine ⟨t, ys, rfl, h1.symm, O1, p.2, R1, ?_⟩
  exact Out.wp_imp (Out.wp_bind w) (fun q _ w O2 vs H2 R2 s2 b2 => w O2 _ H2 R2 (s1.trans s2) (brA_app (brA_vals (h2.step s2)) b2)) fun _ x => x

/-- an operator -/
theorem de_op {op : Operator} {od : D → D → Option D} (ho : OpR X (binaryOp op) (oD (wd X) od)) (h1 : DB X F a fb) (h2 : DB X F b gb) : DE X F (.BinOp a op b pos) (eOp od fb gb) := by
  refine PE.imp (pe_op ho h1 h2) fun σ H Q ⟨O, env, R, w⟩ => ⟨O, env, R, ?_⟩
  refine Out.wp_imp (Out.wp_bind w) (fun p _ w O1 v H1 R1 s1 b1 => ⟨O1, p.2, R1, ?_⟩) fun _ x => x
  refine Out.wp_imp (Out.wp_bind w) (fun q _ w O2 u H2 R2 s2 b2 => ?_) fun _ x => x
  obtain ⟨d, e1, w⟩ := wp_deref w
  obtain ⟨d', e2, w⟩ := wp_deref w
  obtain ⟨r, e3, w⟩ := wp_opt w
  exact ⟨O2, d, d', r, R2.dom, deref_ok R2 (b1.step s2) e1, deref_ok R2 b2 e2, e3, fun x H3 s3 q3 => w O2 x H3 (R2.same s3) ((s1.trans s2).trans (.same s3)) q3⟩
theorem de_un {op : UnaryOp} {od : D → Option D} (ho : UnR X (unaryOp op) (uD (wd X) od)) (h1 : DB X F a fb) : DE X F (.UnaryOp op a pos) (eUn od fb) := by
  refine PE.imp (pe_un ho h1) fun σ H Q ⟨O, env, R, w⟩ => ⟨O, env, R, ?_⟩
  refine Out.wp_imp (Out.wp_bind w) (fun p _ w O1 v H1 R1 s1 b1 => ?_) fun _ x => x
  obtain ⟨d, e1, w⟩ := wp_deref w
  obtain ⟨r, e3, w⟩ := wp_opt w
  exact ⟨O1, d, r, R1.dom, deref_ok R1 b1 e1, e3, fun x H3 s3 q3 => w O1 x H3 (R1.same s3) (s1.trans (.same s3)) q3⟩
/-- a comparison, as a value, as a test -/
theorem cmp_in {r : R2} {od : D → D → Option D} {σ : L2.St} {H : Hp} {Q : VK} (hr : ∀ x y H Q, oD (wd X) od x y H Q → r x y H Q) : rD (wd X) F (eOp od fb gb) σ H Q → tOp r (rB (wd X) F fb) (rB (wd X) F gb) σ H Q := by
  rintro ⟨O, env, R, w⟩
  refine ⟨O, env, R, ?_⟩
  refine Out.wp_imp (Out.wp_bind w) (fun p _ w O1 v H1 R1 s1 b1 => ⟨O1, p.2, R1, ?_⟩) fun _ x => x
  refine Out.wp_imp (Out.wp_bind w) (fun q _ w O2 u H2 R2 s2 b2 => ?_) fun _ x => x
  obtain ⟨d, e1, w⟩ := wp_deref w
  obtain ⟨d', e2, w⟩ := wp_deref w
  obtain ⟨r, e3, w⟩ := wp_opt w
  exact hr _ _ _ _ ⟨O2, d, d', r, R2.dom, deref_ok R2 (b1.step s2) e1, deref_ok R2 b2 e2, e3, fun x H3 s3 q3 => w O2 x H3 (R2.same s3) ((s1.trans s2).trans (.same s3)) q3⟩
theorem de_cmp {op : CmpOp} {od : D → D → Option D} (ho : OpR X (compareOp op) (oD (wd X) od)) (h1 : DB X F a fb) (h2 : DB X F b gb) (hm : behindInMarks op b = false) : DE X F (.Compare a [op] [b] pos) (eOp od fb gb) :=
  PE.imp (pe_cmpR ho h1 h2 hm) fun _ _ _ z => cmp_in (fun _ _ _ _ z => z) z
/-- a reading of a bool as a reading of a test -/
theorem tB_in {σ : L2.St} {H : Hp} {Q : Bool → Hp → Prop} {t : TE} (ht : ∀ σ H Q, rD (wd X) F f σ H Q → t σ H Q) : rT (wd X) F (WP.tB f) σ H Q → t σ H fun x H' => ∃ k, x = .bl k ∧ Q k H' := by
  rintro ⟨O, env, R, w⟩
  refine ht _ _ _ ⟨O, env, R, ?_⟩
  refine Out.wp_imp (Out.wp_bind w) (fun p _ w O1 v H1 R1 s1 q1 => ?_) fun _ x => x
  split at w
  · rename_i k ek
    rw [ek] at q1
    exact ⟨k, q1.boolI, w O1 H1 R1 s1⟩
  · exact w.elim
theorem dt_cmp {op : CmpOp} {od : D → D → Option D} (ho : OpR X (compareOp op) (oD (wd X) od)) (h1 : DB X F a fb) (h2 : DB X F b gb) (hm : behindInMarks op b = false) : DT X F (.Compare a [op] [b] pos) (WP.tB (eOp od fb gb)) :=
  PT.imp (pt_cmpR ho h1 h2 hm) fun _ _ _ z => tB_in (fun _ _ _ z => cmp_in (fun _ _ _ _ z => z) z) z
/-- any expression whose value is a bool, as a test -/
theorem dt_val (h1 : DE X F e f) (he : ∀ whole, isTrue e X.env whole = (do let v ← whole; standAt e.pos; holding [v] (truthy v)) := by intro _; rfl) : DT X F e (WP.tB f) :=
  PT.imp (pt_val h1 he) fun _ _ _ z => tB_in (fun _ _ _ z => z) z
theorem chain_in {r r' : R2} {od od' : D → D → Option D} {σ : L2.St} {H : Hp} {Q : VK} (hr : ∀ x y H Q, oD (wd X) od x y H Q → r x y H Q) (hr' : ∀ x y H Q, oD (wd X) od' x y H Q → r' x y H Q) :
    rD (wd X) F (eChain od od' fb gb hb) σ H Q → tChain r r' (rB (wd X) F fb) (rB (wd X) F gb) (rB (wd X) F hb) σ H Q := by
  rintro ⟨O, env, R, w⟩
  refine ⟨O, env, R, ?_⟩
  refine Out.wp_imp (Out.wp_bind w) (fun p _ w O1 v H1 R1 s1 b1 => ⟨O1, p.2, R1, ?_⟩) fun _ x => x
  refine Out.wp_imp (Out.wp_bind w) (fun q _ w O2 u H2 R2 s2 b2 => ?_) fun _ x => x
  obtain ⟨d, e1, w⟩ := wp_deref w
  obtain ⟨d', e2, w⟩ := wp_deref w
  obtain ⟨r, e3, w⟩ := wp_opt w
  refine hr _ _ _ _ ⟨O2, d, d', r, R2.dom, deref_ok R2 (b1.step s2) e1, deref_ok R2 b2 e2, e3, fun x H3 s3 q3 => ?_⟩
  split at w
  · refine ⟨true, q3.boolI, ?_⟩
    rw [if_pos rfl]
    refine ⟨O2, q.2, R2.same s3, ?_⟩
    refine Out.wp_imp (Out.wp_bind w) (fun t _ w O4 z H4 R4 s4 b4 => ?_) fun _ x => x
    obtain ⟨m, e5, w⟩ := wp_deref w
    obtain ⟨m', e6, w⟩ := wp_deref w
    obtain ⟨r', e7, w⟩ := wp_opt w
    have s24 := (Stp.same (O := O2) s3).trans s4
    exact hr' _ _ _ _ ⟨O4, m, m', r', R4.dom, deref_ok R4 (b2.step s24) e5, deref_ok R4 b4 e6, e7, fun x H5 s5 q5 => w O4 x H5 (R4.same s5) ((((s1.trans s2).trans (.same s3)).trans s4).trans (.same s5)) q5⟩
  · refine ⟨false, q3.boolI, ?_⟩
    rw [if_neg (by decide)]
    exact w O2 _ H3 (R2.same s3) ((s1.trans s2).trans (.same s3)) (.bl false)
  · exact w.elim
theorem de_chain {op op' : CmpOp} {od od' : D → D → Option D} (ho : OpR X (compareOp op) (oD (wd X) od)) (ho' : OpR X (compareOp op') (oD (wd X) od')) (h1 : DB X F a fb) (h2 : DB X F b gb) (h3 : DB X F c hb)
    (hm : lastMarks [op, op'] [b, c] = false := by rfl) : DE X F (.Compare a [op, op'] [b, c] pos) (eChain od od' fb gb hb) :=
  PE.imp (pe_chain ho ho' h1 h2 h3 hm) fun _ _ _ z => chain_in (fun _ _ _ _ z => z) (fun _ _ _ _ z => z) z
theorem dt_chain {op op' : CmpOp} {od od' : D → D → Option D} (ho : OpR X (compareOp op) (oD (wd X) od)) (ho' : OpR X (compareOp op') (oD (wd X) od')) (h1 : DB X F a fb) (h2 : DB X F b gb) (h3 : DB X F c hb)
    (hm : lastMarks [op, op'] [b, c] = false := by rfl) : DT X F (.Compare a [op, op'] [b, c] pos) (WP.tB (eChain od od' fb gb hb)) :=
  PT.imp (pt_chain ho ho' h1 h2 h3 hm) fun _ _ _ z => tB_in (fun _ _ _ z => chain_in (fun _ _ _ _ z => z) (fun _ _ _ _ z => z) z) z

/-! ### built-ins by values -/
theorem de_callB {x : Str} {p : Pos} {id : String} {od : List D → Option D} (hc : CallR X (.builtin id) (cD (wd X) od)) (hg : Gl X x) (hm : X.mg x = none) (hv : bootBuiltins x = some (.builtin id)) (ha : DA X F (e :: es) fa) (hn : x ≠ "__name__" := by decide)
    (hdb : (x == ("__debug__" : Str)) = false := by decide) (he : starEach (e :: es) X.env = (false, eval e X.env) :: starEach es X.env := by rfl) (hpl : (backTo pos (starEach es X.env)).any (·.1) = false := by rfl) :
    DE X F (.Call (.Name x p) (e :: es) [] pos) (eB od fa) := by
  refine PE.imp (pe_callB hc hg hm hv ha hn hdb he hpl) fun σ H Q ⟨O, env, R, w⟩ => ⟨O, env, R, ?_⟩
  refine Out.wp_imp (Out.wp_bind w) (fun p _ w O1 vs H1 R1 s1 b1 => ?_) fun _ x => x
  obtain ⟨ds, e1, w⟩ := wp_derefs w
  obtain ⟨r, e3, w⟩ := wp_opt w
  exact ⟨O1, ds, r, R1.dom, derefs_ok R1 b1 e1, e3, fun x H3 s3 q3 => w O1 x H3 (R1.same s3) (s1.trans (.same s3)) q3⟩
theorem de_callTy {x : Str} {p : Pos} {T : String} {od : List D → Option D} (hc : CallR X (.type T) (cD (wd X) od)) (hg : Gl X x) (hm : X.mg x = none) (hv : bootBuiltins x = some (.type T)) (ha : DA X F (e :: es) fa) (hn : x ≠ "__name__" := by decide)
    (hdb : (x == ("__debug__" : Str)) = false := by decide) (he : starEach (e :: es) X.env = (false, eval e X.env) :: starEach es X.env := by rfl) (hpl : (backTo pos (starEach es X.env)).any (·.1) = false := by rfl) :
    DE X F (.Call (.Name x p) (e :: es) [] pos) (eB od fa) := by
  refine PE.imp (pe_callTy hc hg hm hv ha hn hdb he hpl) fun σ H Q ⟨O, env, R, w⟩ => ⟨O, env, R, ?_⟩
  refine Out.wp_imp (Out.wp_bind w) (fun p _ w O1 vs H1 R1 s1 b1 => ?_) fun _ x => x
  obtain ⟨ds, e1, w⟩ := wp_derefs w
  obtain ⟨r, e3, w⟩ := wp_opt w
  exact ⟨O1, ds, r, R1.dom, derefs_ok R1 b1 e1, e3, fun x H3 s3 q3 => w O1 x H3 (R1.same s3) (s1.trans (.same s3)) q3⟩

/-! ### conditions -/
theorem de_if (h1 : DT X F c ft) (h2 : DE X F a f) (h3 : DE X F b g) : DE X F (.IfExp c a b pos) (eIf ft f g) := by
  refine PE.imp (pe_ifExp h1 h2 h3) fun σ H Q ⟨O, env, R, w⟩ => ⟨O, env, R, ?_⟩
  refine Out.wp_imp (Out.wp_bind w) (fun p _ w O1 H1 R1 s1 => ?_) fun _ x => x
  by_cases k : p.1 = true
  · rw [if_pos k] at w ⊢
    exact ⟨O1, p.2, R1, Out.wp_imp w (fun q _ w O2 v H2 R2 s2 q2 => w O2 v H2 R2 (s1.trans s2) q2) fun _ x => x⟩
  · rw [if_neg k] at w ⊢
    exact ⟨O1, p.2, R1, Out.wp_imp w (fun q _ w O2 v H2 R2 s2 q2 => w O2 v H2 R2 (s1.trans s2) q2) fun _ x => x⟩
theorem de_one {op} (h1 : DE X F a f) : DE X F (.BoolOp op [a] pos) f := PE.imp (pe_one h1) fun _ _ _ z => z
theorem de_and {rest : List Expr} (h1 : DE X F a f) (h2 : DE X F (.BoolOp .And (b :: rest) pos) g) : DE X F (.BoolOp .And (a :: b :: rest) pos) (eAnd f g) := by
  refine PE.imp (pe_and h1 h2) fun σ H Q ⟨O, env, R, w⟩ => ⟨O, env, R, ?_⟩
  refine Out.wp_imp (Out.wp_bind w) (fun p _ w O1 v H1 R1 s1 q1 => ?_) fun _ x => x
  split at w
  · rename_i ek
    rw [ek] at q1
    refine ⟨true, q1.boolI, ?_⟩
    rw [if_pos rfl]
    exact ⟨O1, p.2, R1, Out.wp_imp w (fun q _ w O2 v H2 R2 s2 q2 => w O2 v H2 R2 (s1.trans s2) q2) fun _ x => x⟩
  · rename_i ek
    rw [ek] at q1
    refine ⟨false, q1.boolI, ?_⟩
    rw [if_neg (by decide)]
    exact w O1 _ H1 R1 s1 (.bl false)
  · exact w.elim
theorem de_or {rest : List Expr} (h1 : DE X F a f) (h2 : DE X F (.BoolOp .Or (b :: rest) pos) g) : DE X F (.BoolOp .Or (a :: b :: rest) pos) (eOr f g) := by
  refine PE.imp (pe_or h1 h2) fun σ H Q ⟨O, env, R, w⟩ => ⟨O, env, R, ?_⟩
  refine Out.wp_imp (Out.wp_bind w) (fun p _ w O1 v H1 R1 s1 q1 => ?_) fun _ x => x
  split at w
  · rename_i ek
    rw [ek] at q1
    refine ⟨false, q1.boolI, ?_⟩
    rw [if_neg (by decide)]
    exact ⟨O1, p.2, R1, Out.wp_imp w (fun q _ w O2 v H2 R2 s2 q2 => w O2 v H2 R2 (s1.trans s2) q2) fun _ x => x⟩
  · rename_i ek
    rw [ek] at q1
    refine ⟨true, q1.boolI, ?_⟩
    rw [if_pos rfl]
    exact w O1 _ H1 R1 s1 (.bl true)
  · exact w.elim
theorem de_not (h1 : DE X F a f) : DE X F (.UnaryOp .Not a pos) (eNot f) := by
  refine PE.imp (pe_not h1) fun σ H Q ⟨O, env, R, w⟩ => ⟨O, env, R, ?_⟩
  refine Out.wp_imp (Out.wp_bind w) (fun p _ w O1 v H1 R1 s1 q1 => ?_) fun _ x => x
  split at w
  · rename_i k ek
    rw [ek] at q1
    exact ⟨k, q1.boolI, w O1 _ H1 R1 s1 (.bl _)⟩
  · exact w.elim
theorem dt_not (h1 : DT X F a ft) : DT X F (.UnaryOp .Not a pos) (WP.tNot ft) := by
  refine PT.imp (pt_not h1) fun σ H Q ⟨O, env, R, w⟩ => ⟨O, env, R, ?_⟩
  exact Out.wp_imp (Out.wp_bind w) (fun p _ w O1 H1 R1 s1 => w O1 H1 R1 s1) fun _ x => x
theorem dw_and1 (h1 : DT X F a ft) : DW X F (.BoolOp .And [a] pos) ft := PW.imp (pw_and1 h1) fun _ _ _ z => z
theorem dw_or1 (h1 : DT X F a ft) : DW X F (.BoolOp .Or [a] pos) ft := PW.imp (pw_or1 h1) fun _ _ _ z => z
theorem dw_and {rest : List Expr} (h1 : DT X F a ft) (h2 : DW X F (.BoolOp .And (b :: rest) pos) gt) : DW X F (.BoolOp .And (a :: b :: rest) pos) (WP.tAnd ft gt) := by
  refine PW.imp (pw_and h1 h2) fun σ H Q ⟨O, env, R, w⟩ => ⟨O, env, R, ?_⟩
  refine Out.wp_imp (Out.wp_bind w) (fun p _ w O1 H1 R1 s1 => ?_) fun _ x => x
  by_cases k : p.1 = true
  · rw [if_pos k] at w ⊢
    exact ⟨O1, p.2, R1, Out.wp_imp w (fun q _ w O2 H2 R2 s2 => w O2 H2 R2 (s1.trans s2)) fun _ x => x⟩
  · rw [if_neg k] at w ⊢
    exact w O1 H1 R1 s1
theorem dw_or {rest : List Expr} (h1 : DT X F a ft) (h2 : DW X F (.BoolOp .Or (b :: rest) pos) gt) : DW X F (.BoolOp .Or (a :: b :: rest) pos) (WP.tOr ft gt) := by
  refine PW.imp (pw_or h1 h2) fun σ H Q ⟨O, env, R, w⟩ => ⟨O, env, R, ?_⟩
  refine Out.wp_imp (Out.wp_bind w) (fun p _ w O1 H1 R1 s1 => ?_) fun _ x => x
  by_cases k : p.1 = true
  · rw [if_pos k] at w ⊢
    exact w O1 H1 R1 s1
  · rw [if_neg k] at w ⊢
    exact ⟨O1, p.2, R1, Out.wp_imp w (fun q _ w O2 H2 R2 s2 => w O2 H2 R2 (s1.trans s2)) fun _ x => x⟩
theorem dt_w (h1 : DW X F a ft) : DT X F a ft := PW.pt h1

/-! ### displays -/
/-- a tuple, its object known -/
def tTupF (t : TA) : TE := fun σ H Q => t σ H fun xs H1 => xs.length ≤ sizeLine ∧ ∀ (p : Addr) (o : Obj), H1 p = none → o.dict = none → Q (.ref p) (upd H1 p (.frz o (.tup xs)))
theorem pe_tupF {x1} {t : TA} (h : PA X es t) : PE X (.Tuple es x1 pos) (tTupF t) := by
  refine ⟨fun pins s σ H Q I hq => ?_⟩
  refine wpAny_Tuple_spliced (thn (h.run pos pins s σ H _ I hq) fun us s1 ⟨xs, H1, I1, r, z, q⟩ => ⟨by rw [← r.length]; exact z, ?_⟩)
  have fr : H1 s1.heap.objs.size = none := I1.hok.fresh (Nat.le_refl _)
  have at' : (s1.heap.push { cls := .type "tuple", data := .seq us.toArray }).get? s1.heap.objs.size = some { cls := .type "tuple", data := .seq us.toArray } := Heap.get?_push_size _ rfl
  exact ⟨.ref _, _, I1.laid (t' := s1.toks) (o := .frz { cls := .type "tuple", data := .seq us.toArray } (.tup xs)) (fun b u e => Heap.get?_push_of_some _ e) (Nat.le_refl _)
    ⟨at', z, us, r, ⟨_, at', rfl, _, rfl⟩⟩, rfl, q _ { cls := .type "tuple", data := .seq us.toArray } fr rfl⟩
theorem de_tup {x1} (h1 : DA X F es fa) : DE X F (.Tuple es x1 pos) (eTup fa) := by
  refine PE.imp (pe_tupF h1) fun σ H Q ⟨O, env, R, w⟩ => ⟨O, env, R, ?_⟩
  refine Out.wp_imp (Out.wp_bind w) (fun p _ w O1 vs H1 R1 s1 b1 => ?_) fun _ x => x
  obtain ⟨ds, e1, w⟩ := wp_vals w
  have q := valsOf_ok b1 e1
  split at w
  · rename_i hz
    have z : vs.length ≤ sizeLine := by rw [q.len]; exact hz
    refine ⟨z, fun t o ht ho => ?_⟩
    have sm : SameH H1 (upd H1 t (.frz o (.tup vs))) := SameH.upd ht
    exact w O1 _ _ (R1.same sm) (s1.trans (.same sm)) (.tup ⟨o, upd_same, ho⟩ (new_out R1 ht) (q.step (.same sm)) z)
  · exact w.elim
end
end WP
end
section
set_option Elab.async false
set_option linter.all false
set_option maxRecDepth 100000
set_option autoImplicit false
/-! W6: new lists and dicts; targets; statements. -/
namespace WP
open PySem PySem.Spec PyProof.Rows L2

def rN (W : Wd) (F : Fx) (k : Kd) (f : EF) : TE := fun σ H Q => ∃ O env, Rel W F O env σ H ∧
  (f env).wp (fun p => ∀ O' a H', Rel W F O' p.2 σ H' → Rel W F (fun b => O' b ∨ b = a) p.2 σ H' → Stp O H (fun b => O' b ∨ b = a) H' → ¬ O' a → F.H0 a = none → Cell W H' (fun b => O' b ∨ b = a) k a p.1 → Q (.ref a) H') F.R
abbrev DN (X : Cx) (F : Fx) (k : Kd) (e : Expr) (f : EF) : Prop := PE X e (rN (wd X) F k f)

section
variable {W : Wd} {F : Fx} {O O' : Addr → Prop} {env env' : Env} {σ σ' : L2.St} {H H' : Hp} {v : V} {d : D}
theorem Rel.fresh0 {p : Addr} (R : Rel W F O env σ H) (hp : H p = none) : F.H0 p = none := by
  cases e : F.H0 p with
  | none => rfl
  | some o =>
    by_cases hS : F.S p
    · exact absurd (R.sub p (R.ss p hS)) (new_out R hp)
    · rw [R.frm p o e hS] at hp; cases hp
theorem stp_grow {p : Addr} (sm : SameH H H') (hp : H p = none) : Stp O H (fun a => O a ∨ a = p) H' := ⟨fun b o e _ => sm b o e, fun b h => h.imp id fun e => by rw [e]; exact hp⟩
end
section
variable {X : Cx} {F : Fx} {e a b c : Expr} {es : List Expr} {f g h : EF} {fb gb hb : BF} {fa ga : AF} {pos : Pos} {ft gt : TF}
theorem de_new {k : Kd} (h1 : DN X F k e f) : DE X F e f := by
  refine PE.imp h1 fun σ H Q ⟨O, env, R, w⟩ => ⟨O, env, R, ?_⟩
  exact Out.wp_imp w (fun p _ w O1 a H1 R1 R2 s1 na h0 c => w O1 _ H1 R1 ⟨s1.keep, fun b q => s1.sub b (.inl q)⟩ ((c.mono fun _ h => .inl h).dq na)) fun _ x => x
theorem dn_lst (h1 : DA X F es fa) : DN X F .m (.List es pos) (eLst fa) := by
  refine PE.imp (pe_lst h1) fun σ H Q ⟨O, env, R, w⟩ => ⟨O, env, R, ?_⟩
  refine Out.wp_imp (Out.wp_bind w) (fun p _ w O1 vs H1 R1 s1 b1 => ?_) fun _ x => x
  obtain ⟨ds, e1, w⟩ := wp_vals w
  have q := valsOf_ok b1 e1
  split at w
  · rename_i hz
    have z : vs.length ≤ sizeLine := by rw [q.len]; exact hz
    refine ⟨z, fun t ht => ?_⟩
    have sm : SameH H1 (upd H1 t (.lst vs)) := SameH.upd ht
    exact w O1 t _ (R1.same sm) (R1.grow sm ht ⟨_, upd_same⟩) (s1.trans (stp_grow sm ht)) (new_out R1 ht) (R1.fresh0 ht) ⟨vs, ds, rfl, upd_same, q.step (stp_grow sm ht), z⟩
  · exact w.elim

/-! ### targets -/
/-- an item is such a datum: a value; a pair that nobody keeps -/
abbrev RelI := Wd → Hp → (Addr → Prop) → V → D → Prop
def Pq : RelI := fun W H O v d => ∃ a xs ds, v = .ref a ∧ d = .tuple ds ∧ SqT W.K H a xs ∧ DqA W H O xs ds
theorem Dq.pq {W : Wd} {H : Hp} {O : Addr → Prop} {v : V} {ds : List D} (q : Dq W H O v (.tuple ds)) : Pq W H O v (.tuple ds) := by
  obtain ⟨a, xs, e, h, _, q, _⟩ := q.tupI
  exact ⟨a, xs, ds, e, rfl, h, q⟩
/-- the slots agree but at T -/
def Agr (T : List Nat) (σ σ' : L2.St) : Prop := σ'.length = σ.length ∧ ∀ j, j ∉ T → σ'[j]? = σ[j]?
theorem Agr.refl {T : List Nat} {σ : L2.St} : Agr T σ σ := ⟨rfl, fun _ _ => rfl⟩
theorem Agr.trans {T T' : List Nat} {σ σ1 σ2 : L2.St} (a : Agr T σ σ1) (b : Agr T' σ1 σ2) : Agr (T ++ T') σ σ2 :=
  ⟨b.1.trans a.1, fun j h => (b.2 j fun q => h (List.mem_append_right _ q)).trans (a.2 j fun q => h (List.mem_append_left _ q))⟩
theorem Agr.mono {T T' : List Nat} {σ σ' : L2.St} (a : Agr T σ σ') (h : ∀ j ∈ T, j ∈ T') : Agr T' σ σ' := ⟨a.1, fun j n => a.2 j fun q => n (h j q)⟩
theorem wipe_get {σ : L2.St} : ∀ {vs : List Nat} {i : Nat}, i ∈ vs → i < σ.length → (L2.wipe σ vs)[i]? = some none
  | v :: vs, i, h, hi => by
    have hl : i < (L2.wipe σ vs).length := by rw [wipe_length]; exact hi
    show ((L2.wipe σ vs).set v none)[i]? = some none
    by_cases e : v = i
    · subst e; rw [List.getElem?_set_self hl]
    · rw [List.getElem?_set_ne e]
      rcases List.mem_cons.mp h with q | q
      · exact absurd q.symm e
      · exact wipe_get q hi
theorem Agr.wipe {vs : List Nat} {σ σ' : L2.St} (a : Agr vs σ σ') : L2.wipe σ' vs = L2.wipe σ vs := by
  refine List.ext_getElem? fun i => ?_
  by_cases hi : i ∈ vs
  · by_cases hl : i < σ.length
    · rw [wipe_get hi hl, wipe_get hi (by rw [a.1]; exact hl)]
    · rw [List.getElem?_eq_none (by rw [wipe_length, a.1]; omega), List.getElem?_eq_none (by rw [wipe_length]; omega)]
  · rw [wipe_out hi, wipe_out hi, a.2 i hi]
def rG (W : Wd) (F : Fx) (V' : RelI) (T : List Nat) (g : GF) : TG := fun v σ H Q => ∃ O env d, Rel W F O env σ H ∧ V' W H O v d ∧ (g d env).wp (fun e => ∀ O' σ' H', Rel W F O' e σ' H' → Stp O H O' H' → Agr T σ σ' → Q σ' H') F.R
def rGs (W : Wd) (F : Fx) (T : List Nat) (gs : List GF) : TGs := fun vs σ H Q => ∃ O env ds, Rel W F O env σ H ∧ DqA W H O vs ds ∧ (gAll gs ds env).wp (fun e => ∀ O' σ' H', Rel W F O' e σ' H' → Stp O H O' H' → Agr T σ σ' → Q σ' H') F.R
abbrev DG (X : Cx) (F : Fx) (V' : RelI) (T : List Nat) (e : Expr) (g : GF) : Prop := PG X e (rG (wd X) F V' T g)
abbrev DGs (X : Cx) (F : Fx) (T : List Nat) (es : List Expr) (g : List GF) : Prop := PGs X es (rGs (wd X) F T g)
theorem PGs.imp {X : Cx} {tg : List Expr} {t t' : TGs} (h : PGs X tg t) (i : ∀ v σ H Q, t' v σ H Q → t v σ H Q) : PGs X tg t' := ⟨fun pins s σ H v u Q I r q => h.run pins s σ H v u Q I r (i v σ H Q q)⟩
variable {T T' : List Nat} {V' : RelI} {gf : GF} {gfs : List GF} {tg : Expr} {tgs : List Expr}
theorem dg_name {i : Nat} {x : Str} (hN : X.N.Nodup) (hi : X.N[i]? = some x) (hx : Loc X.env.scope x) (hf : X.fn x = true ∨ X.env.scope.names.lookup x = some .local := by first | exact .inl rfl | exact .inr rfl | assumption) : DG X F Dq [i] (.Name x pos) (WP.gName i) := by
  refine PG.imp (pg_name hN hi hx hf) fun v σ H Q ⟨O, env, d, R, q, w⟩ => ?_
  unfold WP.gName at w
  split at w
  · rename_i h; exact w O _ H (R.put h q) .refl ⟨by simp, fun j hj => List.getElem?_set_ne (fun z => hj (by simp [z]))⟩
  · exact w.elim
theorem dgs_nil : DGs X F [] [] [] := by
  refine PGs.imp pgs_nil fun v σ H Q ⟨O, env, d, R, q, w⟩ => ?_
  cases q with
  | nil => exact ⟨rfl, w O σ H R .refl .refl⟩
  | cons _ _ => exact w.elim
theorem dgs_cons (h1 : DG X F Dq T tg gf) (h2 : DGs X F T' tgs gfs) (hs : (assignEach (tg :: tgs) X.env).map (·.2) = assign tg X.env :: (assignEach tgs X.env).map (·.2) := by rfl) : DGs X F (T ++ T') (tg :: tgs) (gf :: gfs) := by
  refine PGs.imp (pgs_cons h1 h2 hs) fun v σ H Q ⟨O, env, d, R, q, w⟩ => ?_
  cases q with
  | nil => exact w.elim
  | cons q1 q2 =>
    refine ⟨_, _, rfl, O, env, _, R, q1, ?_⟩
    refine Out.wp_imp (Out.wp_bind w) (fun p _ w O1 σ1 H1 R1 s1 a1 => ⟨O1, p, _, R1, q2.step s1, ?_⟩) fun _ x => x
    exact Out.wp_imp w (fun p _ w O2 σ2 H2 R2 s2 a2 => w O2 σ2 H2 R2 (s1.trans s2) (a1.trans a2)) fun _ x => x
/-- a tuple as a target: of a pair, of a value -/
theorem dg_pair {k : Nat} (hc : X.calm = true) (h : DGs X F T tgs gfs) (hn : (assignEach tgs X.env).length = gfs.length := by rfl) (hst : (assignEach tgs X.env).findIdx? (·.1) = none := by rfl) : DG X F Pq T (.Tuple tgs k pos) (gTup gfs) := by
  refine PG.imp (pg_tup hc h hn hst) fun v σ H Q ⟨O, env, d, R, ⟨a, xs, ds, e1, e2, h1, q⟩, w⟩ => ?_
  subst e2
  unfold gTup at w
  dsimp only at w
  split at w
  · rename_i hd
    exact ⟨a, xs, e1, h1, by rw [q.len]; exact hd, O, env, ds, R, q, w⟩
  · exact w.elim
theorem dg_tup {k : Nat} (hc : X.calm = true) (h : DGs X F T tgs gfs) (hn : (assignEach tgs X.env).length = gfs.length := by rfl) (hst : (assignEach tgs X.env).findIdx? (·.1) = none := by rfl) : DG X F Dq T (.Tuple tgs k pos) (gTup gfs) := by
  refine PG.imp (dg_pair hc h hn hst) fun v σ H Q ⟨O, env, d, R, q, w⟩ => ?_
  cases d with
  | tuple ds => exact ⟨O, env, _, R, q.pq, w⟩
  | none => exact w.elim
  | bool _ => exact w.elim
  | int _ => exact w.elim
  | str _ => exact w.elim
  | list _ => exact w.elim
  | dict _ => exact w.elim
end
end WP
end
section
set_option Elab.async false
set_option linter.all false
set_option maxRecDepth 100000
set_option autoImplicit false
/-! W7: what is walked; list comprehensions. -/
namespace WP
open PySem PySem.Spec PyProof.Rows L2

/-- J yields the items ds, in every state that comes from O1, H1 -/
def Yields (W : Wd) (V' : RelI) (J : It) (O1 : Addr → Prop) (H1 : Hp) (ds : List D) : Prop := ∀ (O : Addr → Prop) (H : Hp), Stp O1 H1 O H →
  (∀ i, i < ds.length → J.go i H ∧ ∀ x H', J.yld i H x H' → SameH H H' ∧ ((∀ b, O b → ∃ o, H b = some o) → ∃ d, ds[i]? = some d ∧ V' W H' O x d)) ∧ ∀ i, ds.length ≤ i → J.stop i H
def rI (W : Wd) (F : Fx) (V' : RelI) (it : IF) : TI := fun σ H R => ∃ O env, Rel W F O env σ H ∧
  (it env).wp (fun p => ∀ O' H' J, Rel W F O' p.2 σ H' → Stp O H O' H' → Yields W V' J O' H' p.1 → R J H') F.R
abbrev DI (X : Cx) (F : Fx) (V' : RelI) (tg iter : Expr) (it : IF) : Prop := PI X tg iter (rI (wd X) F V' it)
theorem PI.imp {X : Cx} {tg iter : Expr} {t t' : TI} (h : PI X tg iter t) (i : ∀ σ H R, t' σ H R → t σ H R) : PI X tg iter t' := ⟨fun pins s σ H R I q => h.run pins s σ H R I (i σ H R q)⟩

section
variable {W : Wd} {F : Fx} {O O' : Addr → Prop} {env env' : Env} {σ σ' : L2.St} {H H' : Hp}
/-- pins -/
theorem Rel.addPin {D : Addr} {o : HO} {F' : Fx} (R : Rel W F O env σ H) (e : H D = some o) (hO : O D) (own : ∀ (i : Nat) (sl : Sl), env[i]? = some (some sl) → sl.k ≠ .p → σ[i]? ≠ some (some (.ref D)))
    (h0 : F'.H0 = F.H0 := by rfl) (hs : F'.S = F.S := by rfl) (ho : F'.Oc = F.Oc := by rfl) (hp : F'.pn = (D, o) :: F.pn := by rfl) : Rel W F' O env σ H := by
  obtain ⟨H0', S', Oc', R', fr', E', pn'⟩ := F'
  dsimp only at h0 hs ho hp
  subst h0 hs ho hp
  refine ⟨R.len, R.slot, R.sep, R.dom, R.sub, R.frm, R.dom0, R.ss, fun p hp => ?_⟩
  rcases List.mem_cons.mp hp with q | q
  · subst q; exact ⟨e, hO, own⟩
  · exact R.pin p q
theorem Rel.lessPin {F' : Fx} (R : Rel W F O env σ H) (h0 : F'.H0 = F.H0 := by rfl) (hs : F'.S = F.S := by rfl) (ho : F'.Oc = F.Oc := by rfl) (hp : ∀ p ∈ F'.pn, p ∈ F.pn) : Rel W F' O env σ H := by
  obtain ⟨H0', S', Oc', R', fr', E', pn'⟩ := F'
  dsimp only at h0 hs ho hp
  subst h0 hs ho
  exact ⟨R.len, R.slot, R.sep, R.dom, R.sub, R.frm, R.dom0, R.ss, fun p q => R.pin p (hp p q)⟩
/-- fewer forbidden addresses -/
theorem Rel.less (R : Rel W F O env σ H) (sub : ∀ b, O' b → O b) (own : ∀ (i : Nat) (sl : Sl) (a : Addr), env[i]? = some (some sl) → sl.k ≠ .p → σ[i]? = some (some (.ref a)) → O' a) (pn : ∀ p ∈ F.pn, O' p.1) (oc : ∀ a, F.Oc a → O' a) : Rel W F O' env σ H := by
  refine ⟨R.len, fun i sl e => ?_, R.sep, fun a h => R.dom a (sub a h), oc, R.frm, R.dom0, R.ss, fun p hp => ⟨(R.pin p hp).1, pn p hp, (R.pin p hp).2.2⟩⟩
  obtain ⟨v, h1, h2⟩ := R.slot i sl e
  refine ⟨v, h1, ?_⟩
  rcases h2 with ⟨k, q⟩ | ⟨k, a, ev, oa, c, r⟩
  · exact .inl ⟨k, q.mono sub⟩
  · exact .inr ⟨k, a, ev, own i sl a e k (ev ▸ h1), c.mono sub, r⟩
theorem backE_len (old new : Env) : ∀ vs : List Nat, (backE old new vs).length = new.length
  | [] => rfl
  | v :: vs => by
    show ((backE old new vs).set v _).length = _
    rw [List.length_set]
    exact backE_len old new vs
theorem backE_get (old new : Env) : ∀ {vs : List Nat} {i : Nat} {sl : Sl}, (backE old new vs)[i]? = some (some sl) → (i ∈ vs ∧ sl.k = .p ∧ old[i]? = some (some sl)) ∨ (i ∉ vs ∧ new[i]? = some (some sl))
  | [], i, sl, h => .inr ⟨by simp, h⟩
  | v :: vs, i, sl, h => by
    rcases getset (show ((backE old new vs).set v _)[i]? = some (some sl) from h) with ⟨e1, _, e2⟩ | ⟨n, e⟩
    · subst e1
      refine .inl ⟨List.mem_cons_self, ?_⟩
      split at e2
      · rename_i d hd
        cases e2
        exact ⟨rfl, hd⟩
      · cases e2
    · rcases backE_get old new e with ⟨q1, q2, q3⟩ | ⟨q1, q2⟩
      · exact .inl ⟨List.mem_cons_of_mem _ q1, q2, q3⟩
      · exact .inr ⟨fun z => (List.mem_cons.mp z).elim (fun z => n z.symm) q1, q2⟩
/-- behind a comprehension -/
theorem Rel.back {O1 : Addr → Prop} {H1 : Hp} {old : Env} {vs : List Nat} (R1 : Rel W F O1 old σ H1) (R : Rel W F O env (L2.wipe σ vs) H) (s : Stp O1 H1 O H) : Rel W F O (backE old env vs) σ H := by
  have wl : (L2.wipe σ vs).length = σ.length := wipe_length σ vs
  have own : ∀ {i : Nat} {sl : Sl}, (backE old env vs)[i]? = some (some sl) → sl.k ≠ .p → env[i]? = some (some sl) ∧ (L2.wipe σ vs)[i]? = σ[i]? := by
    intro i sl e k
    rcases backE_get old env e with ⟨_, q, _⟩ | ⟨q1, q2⟩
    · exact absurd q k
    · exact ⟨q2, wipe_out q1⟩
  refine ⟨by rw [backE_len, R.len, wl], fun i sl e => ?_, fun i j sl sl' a e e' k k' h h' => ?_, R.dom, R.sub, R.frm, R.dom0, R.ss, fun p hp => ⟨(R.pin p hp).1, (R.pin p hp).2.1, fun i sl e k => ?_⟩⟩
  · rcases backE_get old env e with ⟨q1, q2, q3⟩ | ⟨q1, q2⟩
    · obtain ⟨v, h1, h2⟩ := R1.slot i sl q3
      rcases h2 with ⟨k, q⟩ | ⟨k, _⟩
      · exact ⟨v, h1, .inl ⟨k, q.step s⟩⟩
      · exact absurd q2 k
    · obtain ⟨v, h1, h2⟩ := R.slot i sl q2
      rw [wipe_out q1] at h1
      exact ⟨v, h1, h2⟩
  · obtain ⟨a1, a2⟩ := own e k
    obtain ⟨b1, b2⟩ := own e' k'
    exact R.sep i j sl sl' a a1 b1 k k' (by rw [a2]; exact h) (by rw [b2]; exact h')
  · obtain ⟨a1, a2⟩ := own e k
    rw [← a2]
    exact (R.pin p hp).2.2 i sl a1 k
end

section
variable {X : Cx} {F : Fx} {e a b c tg iter elt : Expr} {es : List Expr} {f g h : EF} {pos : Pos} {V' : RelI} {it : IF} {gf : GF} {tf : TF}
/-- one list is made: D, in its own place -/
theorem noOwn {W : Wd} {F : Fx} {O : Addr → Prop} {env : Env} {σ : L2.St} {H : Hp} {D : Addr} (R : Rel W F O env σ H) (n : ¬ O D) : ∀ (i : Nat) (sl : Sl), env[i]? = some (some sl) → sl.k ≠ .p → σ[i]? ≠ some (some (.ref D)) := fun i sl e k z => by
  obtain ⟨a, h1, h2, _⟩ := R.own e k
  rw [z] at h1; cases h1
  exact n h2
theorem noExc_wp {α β : Type} {o : Out α} {f : α → Out β} {P : β → Prop} {R : Exc → Prop} (h : ((noExc o).bind f).wp P R) : o.wp (fun a => (f a).wp P R) fun _ => False := by
  cases o with
  | ok a => exact h
  | exc e => exact h.elim
  | bad => exact h.elim
/-- the tests of a comprehension -/
def rTs (W : Wd) (F : Fx) (tf : TF) : TT := rT W F tf
abbrev DTs (X : Cx) (F : Fx) (ifs : List Expr) (f : TF) : Prop := PTs X ifs (rT (wd X) F f)
theorem dts_nil : DTs X F [] tTrue := ⟨fun pins s σ H Q I ⟨O, env, R, w⟩ => pts_nil.run pins s σ H Q I (w O H R .refl)⟩
theorem dts_one {c : Expr} {f : TF} (h : DT X F c f) : DTs X F [c] f := pts_one h

/-- what a turn of a comprehension keeps -/
structure LcI (W : Wd) (F : Fx) (σw : L2.St) (O1 : Addr → Prop) (H1 : Hp) (D : Addr) (O : Addr → Prop) (env : Env) (H : Hp) (acc : List V) (ac : List WP.D) : Prop where
  rel : Rel W (F.inn ((D, .lst acc) :: F.pn)) O env σw H
  ats : DqA W H O acc ac
  stp : Stp O1 H1 O H
theorem LcI.cell {W : Wd} {F : Fx} {σw : L2.St} {O1 : Addr → Prop} {H1 : Hp} {D : Addr} {O : Addr → Prop} {env : Env} {H : Hp} {acc : List V} {ac : List WP.D} (L : LcI W F σw O1 H1 D O env H acc ac) : H D = some (.lst acc) ∧ O D :=
  ⟨(L.rel.pin _ List.mem_cons_self).1, (L.rel.pin _ List.mem_cons_self).2.1⟩
/-- one more item -/
theorem LcI.snoc {W : Wd} {F : Fx} {σw : L2.St} {O1 : Addr → Prop} {H1 : Hp} {D : Addr} {O : Addr → Prop} {env : Env} {H : Hp} {acc : List V} {ac : List WP.D} {v : V} {d : WP.D} (L : LcI W F σw O1 H1 D O env H acc ac) (q : Dq W H O v d) (h1 : H1 D = none) (hpn : ∀ p ∈ F.pn, p.1 ≠ D) (h0 : F.H0 D = none) :
    LcI W F σw O1 H1 D O env (upd H D (.lst (acc ++ [v]))) (acc ++ [v]) (ac ++ [d]) := by
  obtain ⟨hD, oD⟩ := L.cell
  have st : Stp O H O (upd H D (.lst (acc ++ [v]))) := ⟨fun b u e n => by rw [upd_ne (fun z => n (by rw [z]; exact oD))]; exact e, fun _ h => .inl h⟩
  have nown : ∀ (i : Nat) (sl : Sl), env[i]? = some (some sl) → sl.k ≠ .p → σw[i]? ≠ some (some (.ref D)) := (L.rel.pin _ List.mem_cons_self).2.2
  refine ⟨⟨L.rel.len, fun i sl e => ?_, L.rel.sep, fun b hb => ?_, L.rel.sub, fun b o e n => ?_, L.rel.dom0, L.rel.ss, fun p hp => ?_⟩, (L.ats.step st).snoc (q.step st), ?_⟩
  · obtain ⟨u, e1, h⟩ := L.rel.slot i sl e
    refine ⟨u, e1, ?_⟩
    rcases h with ⟨k, q⟩ | ⟨k, b, ev, ob, cb, r⟩
    · exact .inl ⟨k, q.step st⟩
    · refine .inr ⟨k, b, ev, ob, cb.step st (fun o e2 => ?_), r⟩
      have nb : b ≠ D := fun z => nown i sl e k (by rw [e1, ev, z])
      rw [upd_ne nb]; exact e2
  · by_cases z : b = D
    · rw [z]; exact ⟨_, upd_same⟩
    · rw [upd_ne z]; exact L.rel.dom b hb
  · have nb : b ≠ D := fun z => by
      rw [z] at e
      have e' : F.H0 D = some o := e
      rw [h0] at e'; cases e'
    rw [upd_ne nb]; exact L.rel.frm b o e n
  · rcases List.mem_cons.mp hp with z | z
    · subst z
      exact ⟨upd_same, oD, nown⟩
    · have r := L.rel.pin p (List.mem_cons_of_mem _ z)
      exact ⟨by rw [upd_ne (hpn p z)]; exact r.1, r.2⟩
  · exact L.stp.trans st
theorem wipe_idem (σ : L2.St) (vs : List Nat) : L2.wipe (L2.wipe σ vs) vs = L2.wipe σ vs := by
  refine List.ext_getElem? fun i => ?_
  by_cases hi : i ∈ vs
  · by_cases hl : i < σ.length
    · rw [wipe_get hi (by rw [wipe_length]; exact hl), wipe_get hi hl]
    · rw [List.getElem?_eq_none (by rw [wipe_length, wipe_length]; omega), List.getElem?_eq_none (by rw [wipe_length]; omega)]
  · rw [wipe_out hi]
theorem Stp.less {O H O' H'} {O'' : Addr → Prop} (s : Stp O H O' H') (h : ∀ b, O'' b → O' b) : Stp O H O'' H' := ⟨s.keep, fun b q => s.sub b (h b q)⟩
theorem drop_eq {α : Type} {l : List α} {i : Nat} {d : α} (e : l[i]? = some d) : l.drop i = d :: l.drop (i + 1) := by
  obtain ⟨h, e⟩ := List.getElem?_eq_some_iff.mp e
  rw [List.drop_eq_getElem_cons h, e]
/-- what a comprehension needs, over any reading of its parts -/
theorem lc_in {vs T : List Nat} {σ : L2.St} {H : Hp} {Q : VK} {W : Wd} (hT : ∀ j ∈ T, j ∈ vs) (h : rN W F .m (eComp vs it gf tf f) σ H Q) :
    tLc (rI W F V' it) (fun v σ H Q => ∃ pn, rG W (F.inn pn) V' T gf v σ H Q) (fun σ H Q => ∃ pn, rT W (F.inn pn) tf σ H Q) (fun σ H Q => ∃ pn, rD W (F.inn pn) f σ H Q) vs σ H Q := by
  obtain ⟨O, env, R, w⟩ := h
  refine ⟨O, env, R, ?_⟩
  refine Out.wp_imp (Out.wp_bind w) (fun p _ w O1 H1 J R1 s1 Y D hD => ?_) fun _ x => x
  split at w
  · rename_i hsz
    have w := noExc_wp w
    have h0 : F.H0 D = none := R1.fresh0 hD
    have hpn : ∀ q ∈ F.pn, q.1 ≠ D := fun q hq z => by
      have r := (R1.pin q hq).1
      rw [z, hD] at r; cases r
    have nO : ¬ O1 D := new_out R1 hD
    have sm0 : SameH H1 (upd H1 D (.lst [])) := SameH.upd hD
    refine ⟨fun i m Hx => m = p.1.length - i ∧ i ≤ p.1.length ∧ ∃ Ox envx acc ac, LcI W F (L2.wipe σ vs) O1 H1 D Ox envx Hx acc ac ∧ acc.length ≤ i ∧
      (compLoop vs gf tf f (p.1.drop i) ac envx).wp (fun a => ((Out.ok (PyData.list a.1, backE p.2 a.2 vs)).wp (fun p => ∀ O' a H', Rel W F O' p.2 σ H' → Rel W F (fun b => O' b ∨ b = a) p.2 σ H' → Stp O H (fun b => O' b ∨ b = a) H' → ¬ O' a → F.H0 a = none → Cell W H' (fun b => O' b ∨ b = a) .m a p.1 → Q (.ref a) H') F.R)) fun _ => False,
      ⟨_, rfl, Nat.zero_le _, (fun b => O1 b ∨ b = D), wipeE p.2 vs, [], [], ⟨?_, .nil, stp_grow sm0 hD⟩, Nat.le_refl _, by rw [List.drop_zero]; exact w⟩, ?_⟩
    · exact ((R1.grow sm0 hD ⟨_, upd_same⟩).wipe vs).addPin (D := D) (o := .lst []) upd_same (.inr rfl) (noOwn (R1.wipe vs) nO)
    · rintro i m H2 ⟨rfl, hi, O2, env2, acc, ac, L, hl, w2⟩
      by_cases hlt : i < p.1.length
      · refine .inr ⟨((Y O2 H2 L.stp).1 i hlt).1, fun Hx => i + 1 ≤ p.1.length ∧ ∃ Ox envx acc ac, LcI W F (L2.wipe σ vs) O1 H1 D Ox envx Hx acc ac ∧ acc.length ≤ i + 1 ∧
          (compLoop vs gf tf f (p.1.drop (i + 1)) ac envx).wp (fun a => ((Out.ok (PyData.list a.1, backE p.2 a.2 vs)).wp (fun p => ∀ O' a H', Rel W F O' p.2 σ H' → Rel W F (fun b => O' b ∨ b = a) p.2 σ H' → Stp O H (fun b => O' b ∨ b = a) H' → ¬ O' a → F.H0 a = none → Cell W H' (fun b => O' b ∨ b = a) .m a p.1 → Q (.ref a) H') F.R)) fun _ => False,
          fun H' ⟨n1, n2⟩ => ⟨_, by omega, rfl, n1, n2⟩, fun x H3 hy => ?_⟩
        obtain ⟨sm, yv⟩ := ((Y O2 H2 L.stp).1 i hlt).2 x H3 hy
        obtain ⟨d, ed, vd⟩ := yv L.rel.dom
        rw [drop_eq ed] at w2
        refine ⟨_, O2, env2, d, L.rel.same sm, vd, ?_⟩
        refine Out.wp_imp (Out.wp_bind w2) (fun e1 _ w O3 σ3 H3' R3 s3 a3 => ?_) fun _ x => x
        have wq : L2.wipe σ3 vs = L2.wipe σ vs := by rw [(a3.mono hT).wipe, wipe_idem]
        refine ⟨wq, _, O3, e1, R3, ?_⟩
        refine Out.wp_imp (Out.wp_bind w) (fun q _ w O4 H4 R4 s4 => ?_) fun _ x => x
        have c4 : Stp O2 H2 O4 H4 := ((Stp.same (O := O2) sm).trans s3).trans s4
        by_cases k : q.1 = true
        · rw [if_pos k] at w
          dsimp only
          rw [if_pos k]
          refine ⟨_, O4, q.2, R4, ?_⟩
          refine Out.wp_imp (Out.wp_bind w) (fun r _ w O5 v H5 R5 s5 q5 => ?_) fun _ x => x
          have c5 : Stp O2 H2 O5 H5 := c4.trans s5
          have L5 : LcI W F (L2.wipe σ vs) O1 H1 D O5 (wipeE r.2 vs) H5 acc ac := ⟨by have z := R5.wipe vs; rwa [wq] at z, L.ats.step c5, L.stp.trans c5⟩
          refine ⟨acc, L5.cell.1, ?_, hlt, O5, _, _, _, L5.snoc q5 hD hpn h0, ?_, w⟩
          · have : sizeLine = 16777216 := rfl
            omega
          · rw [List.length_append, List.length_singleton]; omega
        · rw [if_neg k] at w
          dsimp only
          rw [if_neg k]
          exact ⟨hlt, O4, wipeE q.2 vs, acc, ac, ⟨by have z := R4.wipe vs; rwa [wq] at z, L.ats.step c4, L.stp.trans c4⟩, by omega, w⟩
      · refine .inl ⟨(Y O2 H2 L.stp).2 i (by omega), ?_⟩
        rw [List.drop_eq_nil_of_le (by omega)] at w2
        obtain ⟨cD, oD⟩ := L.cell
        have nown := (L.rel.pin _ List.mem_cons_self).2.2
        have Rb : Rel W F O2 (backE p.2 env2 vs) σ H2 := R1.back (L.rel.lessPin (F' := F) (hp := fun q hq => List.mem_cons_of_mem _ hq)) L.stp
        have nb : ∀ (i : Nat) (sl : Sl), (backE p.2 env2 vs)[i]? = some (some sl) → sl.k ≠ .p → σ[i]? ≠ some (some (.ref D)) := fun i sl e k => by
          rcases backE_get p.2 env2 e with ⟨_, q, _⟩ | ⟨q1, q2⟩
          · exact absurd q k
          · have z := nown i sl q2 k
            rwa [wipe_out q1] at z
        have R' : Rel W F (fun b => O2 b ∧ b ≠ D) (backE p.2 env2 vs) σ H2 := Rb.less (fun b h => h.1) (fun i sl a e k ea => ?_) (fun q hq => ⟨(Rb.pin q hq).2.1, hpn q hq⟩) fun a ha => ⟨Rb.sub a ha, fun z => by
          obtain ⟨o, e⟩ := Rb.dom0 a ha
          rw [z, h0] at e; cases e⟩
        · have eO : (fun b => (O2 b ∧ b ≠ D) ∨ b = D) = O2 := by
            funext b
            refine propext ⟨fun h => h.elim (fun q => q.1) fun q => by rw [q]; exact oD, fun h => ?_⟩
            by_cases z : b = D
            · exact .inr z
            · exact .inl ⟨h, z⟩
          refine w2 (fun b => O2 b ∧ b ≠ D) D H2 R' (by rw [eO]; exact Rb) (by rw [eO]; exact s1.trans L.stp) (fun h => h.2 rfl) h0 ?_
          rw [eO]
          refine ⟨acc, ac, rfl, cD, L.ats, ?_⟩
          have : sizeLine = 16777216 := rfl
          omega
        · obtain ⟨a', h1, h2, _⟩ := Rb.own e k
          rw [ea] at h1; cases h1
          exact ⟨h2, fun z => nb i sl e k (z ▸ ea)⟩
  · exact w.elim
theorem pg_some {X : Cx} {tg : Expr} {r : List (Addr × HO) → TG} (h : ∀ pn, PG X tg (r pn)) : PG X tg fun v σ H Q => ∃ pn, r pn v σ H Q := ⟨fun pins s σ H v u Q I rv ⟨pn, q⟩ => (h pn).run pins s σ H v u Q I rv q⟩
theorem pts_some {X : Cx} {ifs : List Expr} {r : List (Addr × HO) → TT} (h : ∀ pn, PTs X ifs (r pn)) : PTs X ifs fun σ H Q => ∃ pn, r pn σ H Q := ⟨fun pins s σ H Q I ⟨pn, q⟩ => (h pn).run pins s σ H Q I q⟩
theorem pe_some {X : Cx} {e : Expr} {r : List (Addr × HO) → TE} (h : ∀ pn, PE X e (r pn)) : PE X e fun σ H Q => ∃ pn, r pn σ H Q := ⟨fun pins s σ H Q I ⟨pn, q⟩ => (h pn).run pins s σ H Q I q⟩
theorem dn_comp {ifs : List Expr} {scope : Scope} {own : List (Str × Nat)} {T : List Nat} (hc : X.calm = true) (hN : X.N.Nodup) (hi : DI X F V' tg iter it) (ok : BlkOk X.N X.env.scope scope own)
    (hg : ∀ (s : Shared) (H : Hp) (C : Addr) (cl : List (Str × Addr)) (fp : List Addr) (pn : List (Addr × HO)), DG (X.blk s H scope (compEnvC scope cl C X.env) fp) (F.inn pn) V' T tg gf)
    (ht : ∀ (s : Shared) (H : Hp) (C : Addr) (cl : List (Str × Addr)) (fp : List Addr) (pn : List (Addr × HO)), DTs (X.blk s H scope (compEnvC scope cl C X.env) fp) (F.inn pn) ifs tf)
    (he : ∀ (s : Shared) (H : Hp) (C : Addr) (cl : List (Str × Addr)) (fp : List Addr) (pn : List (Addr × HO)), DE (X.blk s H scope (compEnvC scope cl C X.env) fp) (F.inn pn) elt f) (hT : ∀ j ∈ T, j ∈ own.map (·.2) := by decide)
    (hs : ∀ x, foldedSetIterable iter X.env x = pure x := by intro _; rfl) : DN X F .m (.ListComp elt [⟨tg, iter, ifs, 0⟩] scope pos) (eComp (own.map (·.2)) it gf tf f) :=
  PE.imp (pe_lc hc hN hi ok (fun s H C cl fp => pg_some (hg s H C cl fp)) (fun s H C cl fp => pts_some (ht s H C cl fp)) (fun s H C cl fp => pe_some (he s H C cl fp)) hs) fun _ _ _ z => lc_in hT z
end
end WP
end
section
set_option Elab.async false
set_option linter.all false
set_option maxRecDepth 100000
set_option autoImplicit false
/-! W8: statements, loops. -/
namespace WP
open PySem PySem.Spec PyProof.Rows L2

def RtOk (W : Wd) (F : Fx) (O : Addr → Prop) (H : Hp) (v : V) (d : D) : Prop := match F.fr with
  | .p => Dq W H O v d
  | k => ∃ a, v = .ref a ∧ F.H0 a = none ∧ Cell W H (fun b => O b ∨ b = a) k a d
/-- what is wanted behind a statement -/
def sPost (W : Wd) (F : Fx) (O : Addr → Prop) (H : Hp) (D : Ends) (p : Fl × Env) : Prop := match p.1 with
  | .nx => ∀ O' σ' H', Rel W F O' p.2 σ' H' → Stp O H O' H' → D.nx σ' H'
  | .bk => ∀ O' σ' H', Rel W F O' p.2 σ' H' → Stp O H O' H' → D.bk σ' H'
  | .ct => ∀ O' σ' H', Rel W F O' p.2 σ' H' → Stp O H O' H' → D.ct σ' H'
  | .rt d => ∀ O' σ' v H', Rel W F O' p.2 σ' H' → Stp O H O' H' → RtOk W F O' H' v d → D.rt v H'
def rS (W : Wd) (F : Fx) (f : SF) : TS := fun D σ H => ∃ O env, Rel W F O env σ H ∧ (f env).wp (sPost W F O H D) F.R
abbrev DS (X : Cx) (F : Fx) (st : Stmt) (f : SF) : Prop := PS X st (rS (wd X) F f)
abbrev DSs (X : Cx) (F : Fx) (st : List Stmt) (f : SF) : Prop := PSs X st (rS (wd X) F f)

section
variable {W : Wd} {F : Fx} {O O' O1 : Addr → Prop} {env env' : Env} {σ σ' : L2.St} {H H' H1 : Hp} {D : Ends}
theorem sPost.step {p : Fl × Env} (s : Stp O H O1 H1) (h : sPost W F O H D p) : sPost W F O1 H1 D p := by
  obtain ⟨f, e⟩ := p
  cases f with
  | nx => exact fun O' σ' H' R s' => h O' σ' H' R (s.trans s')
  | bk => exact fun O' σ' H' R s' => h O' σ' H' R (s.trans s')
  | ct => exact fun O' σ' H' R s' => h O' σ' H' R (s.trans s')
  | rt d => exact fun O' σ' v H' R s' => h O' σ' v H' R (s.trans s')
end
section
variable {X : Cx} {F : Fx} {e a b c tg iter : Expr} {es : List Expr} {f g h : EF} {fs gs : SF} {ft : TF} {st : Stmt} {rest sa sb : List Stmt} {pos : Pos} {V' : RelI} {it : IF} {gf : GF} {T : List Nat}
theorem dss_nil : DSs X F [] sNext := PSs.imp pss_nil fun D σ H ⟨O, env, R, w⟩ => w O σ H R .refl
theorem dss_one (h1 : DS X F st fs) : DSs X F [st] fs := pss_one h1
theorem dss_cons (h1 : DS X F st fs) (h2 : DSs X F rest gs) : DSs X F (st :: rest) (sSeq fs gs) := by
  refine PSs.imp (pss_cons h1 h2) fun D σ H ⟨O, env, R, w⟩ => ⟨O, env, R, ?_⟩
  refine Out.wp_imp (Out.wp_bind w) (fun p _ w => ?_) fun _ x => x
  obtain ⟨fl, e1⟩ := p
  cases fl with
  | nx => exact fun O' σ' H' R' s => ⟨O', e1, R', Out.wp_imp w (fun q _ z => z.step s) fun _ x => x⟩
  | bk => exact w
  | ct => exact w
  | rt d => exact w
theorem ds_pass : DS X F (.Pass pos) sNext := PS.imp ps_pass fun D σ H ⟨O, env, R, w⟩ => w O σ H R .refl
theorem ds_never : DS X F st sNever := PS.imp ps_never fun D σ H ⟨O, env, R, w⟩ => w.elim
theorem ds_expr (h1 : DE X F e f) (hs : swapsWith e none pos.line X.env = pure false := by rfl) : DS X F (.Expr e pos) (sDrop f) := by
  refine PS.imp (ps_expr h1 hs) fun D σ H ⟨O, env, R, w⟩ => ⟨O, env, R, ?_⟩
  exact Out.wp_imp (Out.wp_bind w) (fun p _ w O1 v H1 R1 s1 _ => w O1 σ H1 R1 s1) fun _ x => x
theorem ds_ret (hf : F.fr = .p) (h1 : DE X F e f) : DS X F (.Return (some e) pos) (sRet f) := by
  refine PS.imp (ps_ret h1) fun D σ H ⟨O, env, R, w⟩ => ⟨O, env, R, ?_⟩
  exact Out.wp_imp (Out.wp_bind w) (fun p _ w O1 v H1 R1 s1 q => w O1 σ v H1 R1 s1 (by unfold RtOk; rw [hf]; exact q)) fun _ x => x
theorem ds_retN (hf : F.fr = .p) : DS X F (.Return none pos) sRetN := PS.imp ps_retN fun D σ H ⟨O, env, R, w⟩ => w O σ .non H R .refl (by unfold RtOk; rw [hf]; exact .non)
/-- a new list, dict is handed back -/
theorem ds_retNew {k : Kd} (hf : F.fr = k) (hk : k ≠ .p) (h1 : DN X F k e f) : DS X F (.Return (some e) pos) (sRet f) := by
  refine PS.imp (ps_ret h1) fun D σ H ⟨O, env, R, w⟩ => ⟨O, env, R, ?_⟩
  refine Out.wp_imp (Out.wp_bind w) (fun p _ w O1 a H1 R1 R2 s1 na h0 c => w O1 σ _ H1 R1 ⟨s1.keep, fun b q => s1.sub b (.inl q)⟩ ?_) fun _ x => x
  unfold RtOk
  cases k with
  | p => exact absurd rfl hk
  | m => rw [hf]; exact ⟨a, rfl, h0, c⟩
  | q => rw [hf]; exact ⟨a, rfl, h0, c⟩
  | dk => rw [hf]; exact ⟨a, rfl, h0, c⟩
  | dt => rw [hf]; exact ⟨a, rfl, h0, c⟩
/-- .. one's own, by its name -/
theorem ds_retOwn {k : Kd} {i : Nat} {x : Str} {pos' : Pos} (hf : F.fr = k) (hk : k ≠ .p) (hq : k ≠ .q) (hN : X.N[i]? = some x) (hv : Vis X.env.scope x) (hd : (x == ("__debug__" : Str)) = false := by decide) (hcd : (x == ("__classdict__" : Str)) = false := by decide) :
    DS X F (.Return (some (.Name x pos')) pos) (sRetOwn k i) := by
  refine PS.imp (ps_ret (pe_var hN hv hd hcd)) fun D σ H ⟨O, env, R, w⟩ => ?_
  unfold sRetOwn at w
  split at w
  · rename_i k' d h
    split at w
    · rename_i ek
      subst ek
      obtain ⟨a, e1, oa, ca, _, h0⟩ := R.own h hk
      refine ⟨_, e1, w O σ _ H R .refl ?_⟩
      have c' : Cell (wd X) H (fun b => O b ∨ b = a) k' a d := ca.mono fun b z => z.elim id fun z => by rw [z]; exact oa
      unfold RtOk
      cases k' with
      | p => exact absurd rfl hk
      | m => rw [hf]; exact ⟨a, rfl, h0 hq, c'⟩
      | q => exact absurd rfl hq
      | dk => rw [hf]; exact ⟨a, rfl, h0 hq, c'⟩
      | dt => rw [hf]; exact ⟨a, rfl, h0 hq, c'⟩
    · exact w.elim
  · exact w.elim
theorem ds_if (h1 : DT X F c ft) (h2 : DSs X F sa fs) (h3 : DSs X F sb gs) : DS X F (.If c sa sb pos) (sIf ft fs gs) := by
  refine PS.imp (ps_if h1 h2 h3) fun D σ H ⟨O, env, R, w⟩ => ⟨O, env, R, ?_⟩
  refine Out.wp_imp (Out.wp_bind w) (fun p _ w O1 H1 R1 s1 => ?_) fun _ x => x
  by_cases k : p.1 = true
  · rw [if_pos k] at w ⊢
    exact ⟨O1, p.2, R1, Out.wp_imp w (fun q _ z => z.step s1) fun _ x => x⟩
  · rw [if_neg k] at w ⊢
    exact ⟨O1, p.2, R1, Out.wp_imp w (fun q _ z => z.step s1) fun _ x => x⟩
/-- target = value -/
theorem ds_asg (h1 : DE X F e f) (h2 : DG X F Dq T tg gf) (hs : swapsWithSole [tg] e pos.line X.env = pure false := by rfl) (hw : swappedStores [tg] e X.env = pure none := by rfl)
    (h3 : (assignEach [tg] X.env).map (·.2) = [assign tg X.env] := by rfl) : DS X F (.Assign [tg] e pos) (sAsg gf f) := by
  refine PS.imp (ps_asg h1 h2 hs hw h3) fun D σ H ⟨O, env, R, w⟩ => ⟨O, env, R, ?_⟩
  refine Out.wp_imp (Out.wp_bind w) (fun p _ w O1 v H1 R1 s1 q => ⟨O1, p.2, p.1, R1, q, ?_⟩) fun _ x => x
  exact Out.wp_imp (Out.wp_bind w) (fun e1 _ w O2 σ2 H2 R2 s2 _ => w O2 σ2 H2 R2 (s1.trans s2)) fun _ x => x
/-- name = value -/
theorem ds_set {i : Nat} {x : Str} {pos' : Pos} (hN : X.N.Nodup) (hi : X.N[i]? = some x) (hx : Loc X.env.scope x) (h1 : DE X F e f) (hs : swapsWith e (some (.Name x pos')) pos.line X.env = pure false := by rfl)
    (hf : X.fn x = true ∨ X.env.scope.names.lookup x = some .local := by first | exact .inl rfl | exact .inr rfl | assumption) : DS X F (.Assign [.Name x pos'] e pos) (sSet i f) := by
  refine PS.imp (ps_set hN hi hx h1 hs hf) fun D σ H ⟨O, env, R, w⟩ => ⟨O, env, R, ?_⟩
  refine Out.wp_imp (Out.wp_bind w) (fun p _ w O1 v H1 R1 s1 q => ?_) fun _ x => x
  unfold WP.gName at w
  by_cases hl : i < p.2.length
  · rw [if_pos hl] at w
    exact w O1 _ H1 (R1.put hl q) s1
  · rw [if_neg hl] at w
    exact w.elim
/-- name = a new list, dict -/
theorem new_in {k : Kd} {i : Nat} {D : Ends} {σ : L2.St} {H : Hp} (kp : k ≠ .p) (kq : k ≠ .q) (h : rS (wd X) F (sNew i k f) D σ H) : rN (wd X) F k f σ H (fun x H1 => L2.gName i x σ H1 D.nx) := by
  obtain ⟨O, env, R, w⟩ := h
  refine ⟨O, env, R, ?_⟩
  refine Out.wp_imp (Out.wp_bind w) (fun p _ w O1 a H1 R1 R2 s1 na h0 c => ?_) fun _ x => x
  split at w
  · rename_i hl
    exact w _ _ H1 (R1.putNew R2 hl kp kq na h0 c) s1
  · exact w.elim
theorem ds_new {k : Kd} {i : Nat} {x : Str} {pos' : Pos} (hN : X.N.Nodup) (hi : X.N[i]? = some x) (hx : Loc X.env.scope x) (h1 : DN X F k e f) (kp : k ≠ .p := by decide) (kq : k ≠ .q := by decide) (hs : swapsWith e (some (.Name x pos')) pos.line X.env = pure false := by rfl)
    (hf : X.fn x = true ∨ X.env.scope.names.lookup x = some .local := by first | exact .inl rfl | exact .inr rfl | assumption) : DS X F (.Assign [.Name x pos'] e pos) (sNew i k f) :=
  PS.imp (ps_set hN hi hx h1 hs hf) fun _ _ _ z => new_in kp kq z
/-- a list that is stored, as a plain value -/
theorem set_in {i : Nat} {D : Ends} {σ : L2.St} {H : Hp} (h : rS (wd X) F (sSet i f) D σ H) : rN (wd X) F .m f σ H (fun x H1 => L2.gName i x σ H1 D.nx) := by
  obtain ⟨O, env, R, w⟩ := h
  refine ⟨O, env, R, ?_⟩
  refine Out.wp_imp (Out.wp_bind w) (fun p _ w O1 a H1 R1 R2 s1 na h0 c => ?_) fun _ x => x
  unfold WP.gName at w
  by_cases hl : i < p.2.length
  · rw [if_pos hl] at w
    exact w O1 _ H1 (R1.put hl ((c.mono fun _ h => .inl h).dq na)) ⟨s1.keep, fun b q => s1.sub b (.inl q)⟩
  · rw [if_neg hl] at w
    exact w.elim
/-- name = [..] on one line -/
theorem ds_newLc {i : Nat} {y : Str} {py : Pos} {elt : Expr} {ifs : List Expr} {scope : Scope} {own : List (Str × Nat)} {spos : Pos} {tf : TF} (hc : X.calm = true) (hN : X.N.Nodup) (hy : X.N[i]? = some y) (hyl : X.env.scope.names.lookup y = some .local)
    (hsw : swapsWith (.ListComp elt [⟨tg, iter, ifs, 0⟩] scope pos) (some (.Name y py)) spos.line X.env = pure true) (hi : DI X F V' tg iter it) (ok : BlkOk X.N X.env.scope scope own)
    (hg : ∀ (s : Shared) (H : Hp) (C : Addr) (cl : List (Str × Addr)) (fp : List Addr) (pn : List (Addr × HO)), DG (X.blk s H scope (compEnvC scope cl C X.env) fp) (F.inn pn) V' T tg gf)
    (ht : ∀ (s : Shared) (H : Hp) (C : Addr) (cl : List (Str × Addr)) (fp : List Addr) (pn : List (Addr × HO)), DTs (X.blk s H scope (compEnvC scope cl C X.env) fp) (F.inn pn) ifs tf)
    (he : ∀ (s : Shared) (H : Hp) (C : Addr) (cl : List (Str × Addr)) (fp : List Addr) (pn : List (Addr × HO)), DE (X.blk s H scope (compEnvC scope cl C X.env) fp) (F.inn pn) elt f) (hT : ∀ j ∈ T, j ∈ own.map (·.2) := by decide)
    (hs : ∀ x, foldedSetIterable iter X.env x = pure x := by intro _; rfl) : DS X F (.Assign [.Name y py] (.ListComp elt [⟨tg, iter, ifs, 0⟩] scope pos) spos) (sNew i .m (eComp (own.map (·.2)) it gf tf f)) :=
  PS.imp (ps_setLc hc hN hy hyl hsw hi ok (fun s H C cl fp => pg_some (hg s H C cl fp)) (fun s H C cl fp => pts_some (ht s H C cl fp)) (fun s H C cl fp => pe_some (he s H C cl fp)) hs) fun _ _ _ z => lc_in hT (new_in (by decide) (by decide) z)
theorem ds_setLc {i : Nat} {y : Str} {py : Pos} {elt : Expr} {ifs : List Expr} {scope : Scope} {own : List (Str × Nat)} {spos : Pos} {tf : TF} (hc : X.calm = true) (hN : X.N.Nodup) (hy : X.N[i]? = some y) (hyl : X.env.scope.names.lookup y = some .local)
    (hsw : swapsWith (.ListComp elt [⟨tg, iter, ifs, 0⟩] scope pos) (some (.Name y py)) spos.line X.env = pure true) (hi : DI X F V' tg iter it) (ok : BlkOk X.N X.env.scope scope own)
    (hg : ∀ (s : Shared) (H : Hp) (C : Addr) (cl : List (Str × Addr)) (fp : List Addr) (pn : List (Addr × HO)), DG (X.blk s H scope (compEnvC scope cl C X.env) fp) (F.inn pn) V' T tg gf)
    (ht : ∀ (s : Shared) (H : Hp) (C : Addr) (cl : List (Str × Addr)) (fp : List Addr) (pn : List (Addr × HO)), DTs (X.blk s H scope (compEnvC scope cl C X.env) fp) (F.inn pn) ifs tf)
    (he : ∀ (s : Shared) (H : Hp) (C : Addr) (cl : List (Str × Addr)) (fp : List Addr) (pn : List (Addr × HO)), DE (X.blk s H scope (compEnvC scope cl C X.env) fp) (F.inn pn) elt f) (hT : ∀ j ∈ T, j ∈ own.map (·.2) := by decide)
    (hs : ∀ x, foldedSetIterable iter X.env x = pure x := by intro _; rfl) : DS X F (.Assign [.Name y py] (.ListComp elt [⟨tg, iter, ifs, 0⟩] scope pos) spos) (sSet i (eComp (own.map (·.2)) it gf tf f)) :=
  PS.imp (ps_setLc hc hN hy hyl hsw hi ok (fun s H C cl fp => pg_some (hg s H C cl fp)) (fun s H C cl fp => pts_some (ht s H C cl fp)) (fun s H C cl fp => pe_some (he s H C cl fp)) hs) fun _ _ _ z => lc_in hT (set_in z)

/-! ### loops -/
theorem wipeE_nil (env : Env) : wipeE env [] = env := rfl
theorem ds_for {body : List Stmt} {fg : List Nat} (hp : PassesOwn (model X.prog X.w) X.A X.env X.xe) (hc : X.calm = true) (hi : DI X F V' tg iter it) (hg : DG X F V' T tg gf) (hb : DSs X F body fs)
    (hs : ∀ x, foldedSetIterable iter X.env x = pure x := by intro _; rfl) : DS X F (.For tg iter body [] pos) (sFor fg it gf fs) := by
  refine PS.imp (ps_for hp hc hi hg hb hs) fun D σ H ⟨O, env, R, w⟩ => ⟨O, env, R, ?_⟩
  refine Out.wp_imp (Out.wp_bind w) (fun p _ w O1 H1 J R1 s1 Y => ?_) fun _ x => x
  refine ⟨fun i m σx Hx => m = p.1.length - i ∧ i ≤ p.1.length ∧ ∃ Ox envx, Rel (wd X) F Ox envx σx Hx ∧ Stp O1 H1 Ox Hx ∧ (forLoop fg gf fs (p.1.drop i) envx).wp (sPost (wd X) F O H D) F.R, ⟨_, rfl, Nat.zero_le _, O1, p.2, R1, .refl, by rw [List.drop_zero]; exact w⟩, ?_⟩
  rintro i m σ2 H2 ⟨rfl, hi', O2, env2, R2, s2, w2⟩
  by_cases hlt : i < p.1.length
  · refine .inr ⟨((Y O2 H2 s2).1 i hlt).1, fun σx Hx => i + 1 ≤ p.1.length ∧ ∃ Ox envx, Rel (wd X) F Ox envx σx Hx ∧ Stp O1 H1 Ox Hx ∧ (forLoop fg gf fs (p.1.drop (i + 1)) envx).wp (sPost (wd X) F O H D) F.R,
      fun σ' H' ⟨n1, n2⟩ => ⟨_, by omega, rfl, n1, n2⟩, fun x H3 hy => ?_⟩
    obtain ⟨sm, yv⟩ := ((Y O2 H2 s2).1 i hlt).2 x H3 hy
    obtain ⟨d, ed, vd⟩ := yv R2.dom
    rw [drop_eq ed] at w2
    refine ⟨O2, env2, d, R2.same sm, vd, ?_⟩
    refine Out.wp_imp (Out.wp_bind w2) (fun e1 _ w O3 σ3 H4 R3 s3 _ => ⟨O3, e1, R3, ?_⟩) fun _ x => x
    have c3 : Stp O1 H1 O3 H4 := (s2.trans (.same sm)).trans s3
    refine Out.wp_imp (Out.wp_bind w) (fun q _ w => ?_) fun _ x => x
    obtain ⟨fl, e2⟩ := q
    cases fl with
    | nx => exact fun O4 σ4 H5 R4 s4 => ⟨hlt, O4, _, R4.wipeS fg, c3.trans s4, w⟩
    | ct => exact fun O4 σ4 H5 R4 s4 => ⟨hlt, O4, _, R4.wipeS fg, c3.trans s4, w⟩
    | bk => exact fun O4 σ4 H5 R4 s4 => w O4 σ4 H5 (R4.wipeS fg) (s1.trans (c3.trans s4))
    | rt d => exact fun O4 σ4 v H5 R4 s4 q => w O4 σ4 v H5 R4 (s1.trans (c3.trans s4)) q
  · refine .inl ⟨(Y O2 H2 s2).2 i (by omega), ?_⟩
    rw [List.drop_eq_nil_of_le (by omega)] at w2
    exact w2 O2 σ2 H2 R2 (s1.trans s2)
theorem ds_while {body : List Stmt} {fg : List Nat} {fuel : Env → Nat} (hp : PassesOwn (model X.prog X.w) X.A X.env X.xe) (h1 : DT X F c ft) (hb : DSs X F body fs) : DS X F (.While c body [] pos) (sWhile fg fuel ft fs) := by
  refine PS.imp (ps_while hp h1 hb) fun D σ H ⟨O, env, R, w⟩ => ?_
  refine ⟨fun m σx Hx => ∃ Ox envx, Rel (wd X) F Ox envx σx Hx ∧ Stp O H Ox Hx ∧ (whileLoop fg ft fs m envx).wp (sPost (wd X) F O H D) F.R, ⟨fuel env, O, env, R, .refl, w⟩, ?_⟩
  rintro m σ2 H2 ⟨O2, env2, R2, s2, w2⟩
  cases m with
  | zero => exact w2.elim
  | succ m =>
    refine ⟨O2, env2, R2, ?_⟩
    refine Out.wp_imp (Out.wp_bind w2) (fun p _ w O3 H3 R3 s3 => ?_) fun _ x => x
    have c3 := s2.trans s3
    by_cases k : p.1 = true
    · rw [if_pos k] at w
      dsimp only
      rw [if_pos k]
      refine ⟨fun σx Hx => ∃ Ox envx, Rel (wd X) F Ox envx σx Hx ∧ Stp O H Ox Hx ∧ (whileLoop fg ft fs m envx).wp (sPost (wd X) F O H D) F.R, fun σ' H' z => ⟨m, Nat.lt_succ_self m, z⟩, O3, p.2, R3, ?_⟩
      refine Out.wp_imp (Out.wp_bind w) (fun q _ w => ?_) fun _ x => x
      obtain ⟨fl, e2⟩ := q
      cases fl with
      | nx => exact fun O4 σ4 H5 R4 s4 => ⟨O4, _, R4.wipeS fg, c3.trans s4, w⟩
      | ct => exact fun O4 σ4 H5 R4 s4 => ⟨O4, _, R4.wipeS fg, c3.trans s4, w⟩
      | bk => exact fun O4 σ4 H5 R4 s4 => w O4 σ4 H5 (R4.wipeS fg) (c3.trans s4)
      | rt d => exact fun O4 σ4 v H5 R4 s4 q => w O4 σ4 v H5 R4 (c3.trans s4) q
    · rw [if_neg k] at w
      dsimp only
      rw [if_neg k]
      exact w O3 σ2 H3 R3 c3
end
end WP
end
section
set_option Elab.async false
set_option linter.all false
set_option maxRecDepth 100000
set_option autoImplicit false
/-! W9: defs: what they promise by data; calls. -/
namespace WP
open PySem PySem.Spec PyProof.Rows L2

/-- as the layer's FnOk, nothing is being shown around (A.guards) -/
structure FnG (P : Program) (w : World) (K : PySem.W.Frag) (mg : Str → Option Value) (base : Heap) (CX : CXT) (k : Nat) (f : Addr) (fd : FuncData) (ps : List Str) (sp : Sp) : Prop where
  len : ∀ vs H Q E, sp vs H Q E → vs.length = ps.length
  run : ∀ (A : Around) (outer : List PySem.Env) (s : Shared) (H : Hp) (args : Args) (us : List Value) (vs : List V) (Q : VK) (E : XK), Room k A → A.guards = some [] → Env0 P w K mg base A outer s H → BindsTo s fd args (ps.zip us) → Vals vs us → sp vs H Q E →
    codeAny (model P w) A (.call (.ref f) args) (CR CX outer P w H s Q E) s
section
variable {P : Program} {w : World} {K : PySem.W.Frag} {mg : Str → Option Value} {base : Heap} {CX : CXT} {j k : Nat} {f : Addr} {fd : FuncData} {ps : List Str} {sp : Sp}
theorem FnG.of (F : FnOk P w K mg base CX k f fd ps sp) : FnG P w K mg base CX k f fd ps sp :=
  ⟨F.len, fun A outer s H args us vs Q E hr _ => F.run A outer s H args us vs Q E hr⟩
theorem FnG.mono (F : FnG P w K mg base CX j f fd ps sp) (h : j ≤ k) : FnG P w K mg base CX k f fd ps sp :=
  ⟨F.len, fun A outer s H args us vs Q E hr => F.run A outer s H args us vs Q E (hr.mono h)⟩
/-- a def by its body (after the layer's fn_of) -/
theorem fnG_of {name qual : Str} {params : Arguments} {body : List Stmt} {scope : Scope} {dV kV doc pm cdv ct oc : Value} {an od : Option Addr} {osl : Array (Option Value)} {N : List Str}
    (lk : K.lookup f = some ⟨oc, od, .func (PySem.W.fnOf name qual params body scope dV kV doc pm an cdv ct), osl⟩) (hcd : PySem.W.codeIn K cdv qual = true) (S : FnScope N ps scope)
    (len : ∀ vs H Q E, sp vs H Q E → vs.length = ps.length)
    (hbody : ∀ (A : Around) (outer : List PySem.Env) (s : Shared) (H : Hp) (vs : List V) (Q : VK) (E : XK), Room k (A.deeper (envOfC qual scope s.heap.objs.size f cdv)) → (A.deeper (envOfC qual scope s.heap.objs.size f cdv)).guards = some [] → sp vs H Q E →
      ∃ t, PSs (cxOf CX P w K mg base N qual scope f cdv A outer s H E) body t ∧ t { nx := fun _ H' => Q .non H', rt := Q } (L2.start N vs) H) :
    FnG P w K mg base CX (k + 1) f (PySem.W.fnOf name qual params body scope dV kV doc pm an cdv ct) ps sp := by
  constructor
  · exact len
  intro A outer s H args us vs Q E room gd e0 binds rel want
  have hlen := len _ _ _ _ want
  have inK : K.In s.heap := e0.mod.kin.keeps fun b o e => (e0.bs b o e).1
  have nolim : s.heap.NoLimit := e0.mod.nolimit.keeps fun b o e => (e0.bs b o e).1
  have kinds : ∀ y ∈ ps.zip us, scope.names.lookup y.1 = some .local ∨ (scope.names.lookup y.1 = some .cell ∧ ((cellsFrom (s.heap.objs.size + 1) scope.names []).lookup y.1).isSome = true) := by
    rintro ⟨n, v⟩ hy
    cases S.par n (List.of_mem_zip hy).1 with
    | inl q => exact .inl q
    | inr q => exact .inr ⟨q, PySem.W.cellsFrom_some _ _ _ (.inl q)⟩
  refine codeAny_call_function room.depth (inK _ _ lk) rfl S.co S.gen rfl (PySem.W.codeRec_of inK hcd) (binds _ _ _ _ ?_)
  refine wpAny_newFunctionEnv_cells S.kind kinds fun env he s1 x => ?_
  subst he
  constructor
  · exact nolim.keeps x.toInCall.keep
  apply codeAny_func
  obtain ⟨t, ht, hq⟩ := hbody A outer s H vs Q E (room.deeper _) gd want
  have I : Inv (cxOf CX P w K mg base N qual scope f cdv A outer s H E) [] (L2.start N vs) H s1 := inv_start S room.hd e0 hlen rel x
  apply wpAny_mono (ht.run [] s1 (L2.start N vs) H _ I hq)
  · intro fl s' hs
    have fin : ∀ {σ' : L2.St} {H' : Hp} {v : V} {u : Value}, Inv (cxOf CX P w K mg base N qual scope f cdv A outer s H E) [] σ' H' s' → RelV v u → Q v H' → CE outer P w H s Q u s' :=
      fun {σ' H' v u} J rv q => ⟨v, H', J.os, J.bare, J.base, J.hok, rv, q⟩
    cases fl with
    | ret u => exact (fun ⟨v, σ', H', J, rv, q⟩ => fin J rv q) hs
    | next => exact (fun ⟨σ', H', J, q⟩ => fin (v := V.non) (u := Value.none) J rfl q) hs
    | brk => exact (fun ⟨_, _, _, q⟩ => False.elim q) hs
    | cont => exact (fun ⟨_, _, _, q⟩ => False.elim q) hs
  · intro e s' hs
    exact hs
end
section
variable {X : Cx} {CX : CXT} {k : Nat} {f : Addr} {fd : FuncData} {ps ks : List Str} {sp : Sp} {E : XK} {x : Str} {p pos : Pos} {e : Expr} {es : List Expr} {t tk : TA} {kws : List Keyword}
theorem run_g {pins : List (Addr × Obj)} {σ : L2.St} {H : Hp} {s : Shared} {Q : VK} {us : List Value} {vs : List V} (F : FnG X.prog X.w X.K X.mg X.base CX k f fd ps sp) (hr : Room k X.A) (hgd : X.A.guards = some []) (hb : Binds X.K fd ps []) (hx : Passes CX X E)
    (I : Inv X pins σ H s) (r : Vals vs us) (h : sp vs H Q E) : wpAny (model X.prog X.w) X.A (call (.ref f) us) (EP X pins σ Q) X.xe s := by
  have hl : (us ++ ([] : List Value)).length = ps.length := by
    rw [List.append_nil, ← r.length]
    exact F.len _ _ _ _ h
  have b := hb s us I.kIn hl
  rw [List.append_nil] at b
  apply wpAny_call
  apply codeAny_mono (F.run X.A X.stack s H ⟨us, []⟩ us vs Q E hr hgd I.env0 b r h)
  intro r s' hq
  match r, hq with
  | .error e, hq => exact hx pins σ H s e s' I hq
  | .ok (.ret u), hq => exact I.after hq
  | .ok .next, hq => exact False.elim hq
  | .ok .brk, hq => exact False.elim hq
  | .ok .cont, hq => exact False.elim hq
theorem pe_g (F : FnG X.prog X.w X.K X.mg X.base CX k f fd ps sp) (hr : Room k X.A) (hgd : X.A.guards = some []) (hg : Gl X x) (hm : X.mg x = some (.ref f)) (hk : PySem.W.keepIn X.K (.ref f) = true) (hb : Binds X.K fd ps []) (hx : Passes CX X E)
    (ha : PA X (e :: es) t) (hdb : (x == ("__debug__" : Str)) = false := by decide) (he : starEach (e :: es) X.env = (false, eval e X.env) :: starEach es X.env := by rfl) (hpl : (backTo pos (starEach es X.env)).any (·.1) = false := by rfl) :
    PE X (.Call (.Name x p) (e :: es) [] pos) (fun σ H Q => t σ H fun vs H1 => sp vs H1 Q E) := by
  constructor
  intro pins s σ H Q I h
  apply wpAny_Call_Name_kw
  refine ld_glob I hg hm ?_ hdb
  refine PySem.W.callWith_K (h₀ := X.base) I.ok.mod.kin hk (thn (ha.run pos pins s σ H _ I h) fun us s1 ⟨vs, H1, I1, r, q⟩ => ⟨I1.kIn, run_g F hr hgd hb hx I1 r q⟩) he hpl
theorem pe_g0 (F : FnG X.prog X.w X.K X.mg X.base CX k f fd ps sp) (hr : Room k X.A) (hgd : X.A.guards = some []) (hg : Gl X x) (hm : X.mg x = some (.ref f)) (hk : PySem.W.keepIn X.K (.ref f) = true) (hb : Binds X.K fd ps []) (hx : Passes CX X E)
    (hdb : (x == ("__debug__" : Str)) = false := by decide) : PE X (.Call (.Name x p) [] [] pos) (fun σ H Q => sp [] H Q E) := by
  constructor
  intro pins s σ H Q I h
  apply wpAny_Call_Name_kw
  refine ld_glob I hg hm ?_ hdb
  exact PySem.W.callWith_K0 I.kIn hk (run_g (us := []) F hr hgd hb hx I .nil h)
end

/-! ### promises by data -/
/-- all arguments plain; a plain value -/
def spP (W : Wd) (g : List D → Out D) : Sp := fun vs H Q _ => ∃ O ds, Dom O H ∧ DqA W H O vs ds ∧ (g ds).wp (fun r => ∀ v H', SameH H H' → Dq W H' O v r → Q v H') fun _ => False
/-- .. a new list, dict -/
def spN (W : Wd) (k : Kd) (g : List D → Out D) : Sp := fun vs H Q _ => ∃ O ds, Dom O H ∧ DqA W H O vs ds ∧ (g ds).wp (fun r => ∀ a H', SameH H H' → H a = none → Cell W H' (fun b => O b ∨ b = a) k a r → Q (.ref a) H') fun _ => False
/-- the first argument a list that it may change -/
def spM (W : Wd) (g : List D → List D → Out (D × List D)) : Sp := fun vs H Q _ => ∃ O a xs ls rest ds, vs = .ref a :: rest ∧ Dom O H ∧ O a ∧ H a = some (.lst xs) ∧ DqA W H O xs ls ∧ xs.length ≤ sizeLine ∧ DqA W H O rest ds ∧
  (g ls ds).wp (fun r => ∀ v H' xs', (∀ b o, b ≠ a → H b = some o → H' b = some o) → H' a = some (.lst xs') → DqA W H' O xs' r.2 → xs'.length ≤ sizeLine → Dq W H' O v r.1 → Q v H') fun _ => False
/-- a def that stands in the module, keeping such a promise -/
def CalB (P : Program) (w : World) (K : PySem.W.Frag) (mg : Str → Option Value) (base : Heap) (CX : CXT) (k : Nat) (x : Str) (sp : Sp) : Prop :=
  ∃ (f : Addr) (fd : FuncData) (ps : List Str), FnG P w K mg base CX k f fd ps sp ∧ mg x = some (.ref f) ∧ PySem.W.keepIn K (.ref f) = true ∧ Binds K fd ps []
def Cal (X : Cx) (CX : CXT) (k : Nat) (x : Str) (sp : Sp) : Prop := CalB X.prog X.w X.K X.mg X.base CX k x sp
theorem Cal.ex {X : Cx} {CX : CXT} {k : Nat} {x : Str} {sp : Sp} (c : Cal X CX k x sp) : ∃ (f : Addr) (fd : FuncData) (ps : List Str), FnG X.prog X.w X.K X.mg X.base CX k f fd ps sp ∧ X.mg x = some (.ref f) ∧ PySem.W.keepIn X.K (.ref f) = true ∧ Binds X.K fd ps [] := c
theorem cal_of {P : Program} {w : World} {K : PySem.W.Frag} {mg : Str → Option Value} {base : Heap} {CX : CXT} {k : Nat} {x x' qual : Str} {params : Arguments} {body : List Stmt} {scope : Scope} {f : Addr} {fd : FuncData} {ps : List Str} {sp : Sp} (F : FunD K x' qual params body scope [] [] f fd)
    (hm : mg x = some (.ref f)) (hb : Binds K fd ps []) (ok : FnG P w K mg base CX k f fd ps sp) : CalB P w K mg base CX k x sp := ⟨f, fd, ps, ok, hm, F.kp, hb⟩
abbrev NoR (F : Fx) : Prop := ∀ e, F.R e → False
theorem wp_nor {α : Type} {F : Fx} {o : Out α} {P : α → Prop} (h : o.wp P F.R) (hF : NoR F) : o.wp P fun _ => False := Out.wp_imp h (fun _ _ z => z) hF
abbrev Rm (X : Cx) (j : Nat) : Prop := Room j X.A ∧ X.A.guards = some []
section
variable {X : Cx} {F : Fx} {k j : Nat} {x : Str} {p pos : Pos} {e : Expr} {es : List Expr} {fa : AF} {g : List D → Out D} {gm : List D → List D → Out (D × List D)} {CX : CXT} {E : XK}
theorem nor_inn {pn : List (Addr × HO)} : NoR (F.inn pn) := fun _ h => h
theorem de_call (c : Cal X CX k x (spP (wd X) g)) (hr : Rm X j) (hk : k ≤ j) (hx : Passes CX X E) (hF : NoR F) (hg : Gl X x) (ha : DA X F (e :: es) fa) (hdb : (x == ("__debug__" : Str)) = false := by decide)
    (he : starEach (e :: es) X.env = (false, eval e X.env) :: starEach es X.env := by rfl) (hpl : (backTo pos (starEach es X.env)).any (·.1) = false := by rfl) : DE X F (.Call (.Name x p) (e :: es) [] pos) (eCall g fa) := by
  obtain ⟨f, fd, ps, G, hm, kp, hb⟩ := c.ex
  refine PE.imp (pe_g (E := E) G (hr.1.mono hk) hr.2 hg hm kp hb hx ha hdb he hpl) fun σ H Q ⟨O, env, R, w⟩ => ⟨O, env, R, ?_⟩
  refine Out.wp_imp (Out.wp_bind w) (fun p _ w O1 vs H1 R1 s1 b1 => ?_) fun _ x => x
  obtain ⟨ds, e1, w⟩ := wp_vals w
  refine ⟨O1, ds, R1.dom, valsOf_ok b1 e1, ?_⟩
  exact wp_nor (Out.wp_imp (Out.wp_bind w) (fun r _ w v H' sm qv => w O1 v H' (R1.same sm) (s1.trans (.same sm)) qv) fun _ x => x) hF
theorem de_call0 (c : Cal X CX k x (spP (wd X) g)) (hr : Rm X j) (hk : k ≤ j) (hx : Passes CX X E) (hF : NoR F) (hg : Gl X x) (hdb : (x == ("__debug__" : Str)) = false := by decide) : DE X F (.Call (.Name x p) [] [] pos) (eCall g aNil) := by
  obtain ⟨f, fd, ps, G, hm, kp, hb⟩ := c.ex
  refine PE.imp (pe_g0 (E := E) G (hr.1.mono hk) hr.2 hg hm kp hb hx hdb) fun σ H Q ⟨O, env, R, w⟩ => ?_
  refine ⟨O, [], R.dom, .nil, ?_⟩
  exact wp_nor (Out.wp_imp (Out.wp_bind w) (fun r _ w v H' sm qv => w O v H' (R.same sm) (.same sm) qv) fun _ x => x) hF
/-- a new list, dict comes back -/
theorem dn_call {kd : Kd} (c : Cal X CX k x (spN (wd X) kd g)) (hr : Rm X j) (hk : k ≤ j) (hx : Passes CX X E) (hF : NoR F) (hg : Gl X x) (ha : DA X F (e :: es) fa) (hdb : (x == ("__debug__" : Str)) = false := by decide)
    (he : starEach (e :: es) X.env = (false, eval e X.env) :: starEach es X.env := by rfl) (hpl : (backTo pos (starEach es X.env)).any (·.1) = false := by rfl) : DN X F kd (.Call (.Name x p) (e :: es) [] pos) (eCall g fa) := by
  obtain ⟨f, fd, ps, G, hm, kp, hb⟩ := c.ex
  refine PE.imp (pe_g (E := E) G (hr.1.mono hk) hr.2 hg hm kp hb hx ha hdb he hpl) fun σ H Q ⟨O, env, R, w⟩ => ⟨O, env, R, ?_⟩
  refine Out.wp_imp (Out.wp_bind w) (fun p _ w O1 vs H1 R1 s1 b1 => ?_) fun _ x => x
  obtain ⟨ds, e1, w⟩ := wp_vals w
  refine ⟨O1, ds, R1.dom, valsOf_ok b1 e1, ?_⟩
  exact wp_nor (Out.wp_imp (Out.wp_bind w) (fun r _ w a H' sm ha c => w O1 a H' (R1.same sm) (R1.grow sm ha c.there) (s1.trans (stp_grow sm ha)) (new_out R1 ha) (R1.fresh0 ha) c) fun _ x => x) hF
/-- its first argument, a list of one's own, may change -/
theorem brA_cons {W : Wd} {σ : L2.St} {H : Hp} {O : Addr → Prop} {vs : List V} {r : BR} {rs : List BR} (h : BrA W σ H O vs (r :: rs)) : ∃ v vs', vs = v :: vs' ∧ BrOk W σ H O v r ∧ BrA W σ H O vs' rs := by
  cases h with
  | cons a b => exact ⟨_, _, rfl, a, b⟩
theorem de_callM {i : Nat} {y : Str} {py : Pos} (c : Cal X CX k x (spM (wd X) gm)) (hr : Rm X j) (hk : k ≤ j) (hx : Passes CX X E) (hF : NoR F) (hg : Gl X x) (hN : X.N[i]? = some y) (hv : Vis X.env.scope y) (ha : DA X F es fa)
    (hdb : (x == ("__debug__" : Str)) = false := by decide) (hd : (y == ("__debug__" : Str)) = false := by decide) (hcd : (y == ("__classdict__" : Str)) = false := by decide)
    (he : starEach (.Name y py :: es) X.env = (false, eval (.Name y py) X.env) :: starEach es X.env := by rfl) (hpl : (backTo pos (starEach es X.env)).any (·.1) = false := by rfl) : DE X F (.Call (.Name x p) (.Name y py :: es) [] pos) (eCallM gm i fa) := by
  obtain ⟨f, fd, ps, G, hm, kp, hb⟩ := c.ex
  refine PE.imp (pe_g (E := E) G (hr.1.mono hk) hr.2 hg hm kp hb hx (pa_cons (pe_var hN hv hd hcd) ha he) hdb he hpl) fun σ H Q ⟨O, env, R, w⟩ => ?_
  -- the slot holds a list all along
  have main : ∀ (kd : Kd) (p : List BR × WP.Env) (O1 : Addr → Prop) (vs : List V) (H1 : Hp) (ls : List D) (ds : List D), kd ≠ .p → (kd = .m ∨ kd = .q) → Rel (wd X) F O1 p.2 σ H1 → Stp O H O1 H1 → DqA (wd X) H1 O1 vs ds → p.2[i]? = some (some ⟨kd, .list ls⟩) →
      ((gm ls ds).bind fun r => Out.ok (r.1, p.2.set i (some ⟨kd, .list r.2⟩))).wp (fun p => ∀ O' v H', Rel (wd X) F O' p.2 σ H' → Stp O H O' H' → Dq (wd X) H' O' v p.1 → Q v H') F.R →
      ∀ v0, σ[i]? = some (some v0) → spM (wd X) gm (v0 :: vs) H1 Q E := by
    intro kd p O1 vs H1 ls ds kp kmq R1 s1 q1 ei w v0 ev
    obtain ⟨a, ea, oa, ca, _⟩ := R1.own ei kp
    rw [ev] at ea; cases ea
    have ev' : σ[i]? = some (some (V.ref a)) := ev
    have ca' : ∃ xs, H1 a = some (.lst xs) ∧ DqA (wd X) H1 O1 xs ls ∧ xs.length ≤ sizeLine := by
      rcases kmq with z | z
      · subst z; obtain ⟨xs, l', e1, e2, e3, e4⟩ := ca; cases e1; exact ⟨xs, e2, e3, e4⟩
      · subst z; obtain ⟨xs, l', e1, e2, e3, e4⟩ := ca; cases e1; exact ⟨xs, e2, e3, e4⟩
    obtain ⟨xs, hx1, hx2, hx3⟩ := ca'
    refine ⟨O1, a, xs, ls, vs, ds, rfl, R1.dom, oa, hx1, hx2, hx3, q1, ?_⟩
    refine wp_nor (Out.wp_imp (Out.wp_bind w) (fun r _ w v H' xs' kp' ex' q' z' qv => ?_) fun _ x => x) hF
    -- H' is H1 grown, and a's list changed
    have st : Stp O1 H1 O1 H' := ⟨fun b o h n => kp' b o (fun z => n (by rw [z]; exact oa)) h, fun _ h => .inl h⟩
    have R2 : Rel (wd X) F O1 (p.2.set i (some ⟨kd, .list r.2⟩)) σ H' := by
      -- first grow, then change
      have sm : SameH H1 (upd H' a (.lst xs)) := fun b o h => by
        by_cases z : b = a
        · rw [z, upd_same]; rw [z, hx1] at h; exact h
        · rw [upd_ne z]; exact kp' b o z h
      have Rg := R1.same sm
      have eH : upd (upd H' a (.lst xs)) a (.lst xs') = H' := by
        rw [upd_upd]
        funext b
        by_cases z : b = a
        · rw [z, upd_same, ex']
        · rw [upd_ne z]
      have cc : Cell (wd X) (upd (upd H' a (.lst xs)) a (.lst xs')) O1 kd a (.list r.2) := by
        rw [eH]
        rcases kmq with z | z
        · subst z; exact ⟨xs', r.2, rfl, ex', q', z'⟩
        · subst z; exact ⟨xs', r.2, rfl, ex', q', z'⟩
      have := Rg.putCell ei kp ev' cc
      rwa [eH] at this
    exact w O1 v H' R2 (s1.trans st) qv
  -- the name is read ahead of the other arguments
  have w := Out.wp_bind w
  unfold bS at w
  split at w
  · rename_i sl0 h0
    obtain ⟨v0, ev, _⟩ := R.slot i _ h0
    refine ⟨v0, ev, O, env, R, ?_⟩
    refine Out.wp_imp (Out.wp_bind w) (fun p _ w O1 vs H1 R1 s1 b1 => ?_) fun _ x => x
    obtain ⟨ds, e1, w⟩ := wp_vals w
    split at w
    · rename_i ls ei; exact main .m p O1 vs H1 ls ds (by decide) (.inl rfl) R1 s1 (valsOf_ok b1 e1) ei w v0 ev
    · rename_i ls ei; exact main .q p O1 vs H1 ls ds (by decide) (.inr rfl) R1 s1 (valsOf_ok b1 e1) ei w v0 ev
    · exact w.elim
  · exact w.elim
end
/-! ### a def by its body -/
section
variable {P : Program} {w : World} {K : PySem.W.Frag} {mg : Str → Option Value} {base : Heap} {CX : CXT} {k : Nat} {f : Addr} {fd : FuncData} {x qual : Str} {params : Arguments} {body : List Stmt} {scope : Scope} {N ps : List Str} {fs : SF} {n : Nat}
theorem entry_slot {ds : List D} {m i : Nat} {sl : Sl} (h : (ds.map (fun d => some (Sl.mk .p d)) ++ List.replicate m none)[i]? = some (some sl)) : ∃ d, ds[i]? = some d ∧ sl = ⟨.p, d⟩ := by
  by_cases hi : i < ds.length
  · rw [List.getElem?_append_left (by simpa using hi), List.getElem?_map] at h
    cases e : ds[i]? with
    | none => rw [e] at h; cases h
    | some d => rw [e] at h; cases h; exact ⟨d, rfl, rfl⟩
  · rw [List.getElem?_append_right (by simpa using hi), List.getElem?_replicate] at h
    split at h <;> cases h
theorem start_get {N : List Str} {vs : List V} {i : Nat} {v : V} (h : vs[i]? = some v) : (L2.start N vs)[i]? = some (some v) := by
  have hi : i < vs.length := (List.getElem?_eq_some_iff.mp h).1
  unfold L2.start
  rw [List.getElem?_append_left (by simpa using hi), List.getElem?_map, h]
  rfl
abbrev fxP (H : Hp) (O : Addr → Prop) (fr : Kd) : Fx := { H0 := H, S := fun _ => False, Oc := O, R := fun _ => False, fr := fr, E := E0, pn := [] }
theorem rel_entry {W : Wd} {H : Hp} {O : Addr → Prop} {vs : List V} {ds : List D} {fr : Kd} (hO : Dom O H) (q : DqA W H O vs ds) (hl : vs.length ≤ N.length) : Rel W (fxP H O fr) O (entry N.length ds) (L2.start N vs) H := by
  have hlen := q.len
  refine ⟨?_, fun i sl e => ?_, fun i j sl sl' a e _ k => ?_, hO, fun _ h => h, fun _ _ e _ => e, hO, fun _ h => h.elim, fun p hp => by cases hp⟩
  · unfold entry L2.start
    simp only [List.length_append, List.length_map, List.length_replicate]
    omega
  · obtain ⟨d, e1, rfl⟩ := entry_slot e
    obtain ⟨v, h1, h2⟩ := q.get e1
    exact ⟨v, start_get h1, .inl ⟨rfl, h2⟩⟩
  · obtain ⟨d, e1, rfl⟩ := entry_slot e
    exact absurd rfl k
theorem defP_wp {α : Type} {ds : List D} {P : D → Prop} {R : Exc → Prop} (h : (defP N.length n fs ds).wp P R) : ds.length = n ∧ n ≤ N.length ∧ (fs (entry N.length ds)).wp (fun p => (match p.1 with
    | .nx => P .none
    | .rt d => P d
    | _ => False)) R := by
  unfold defP at h
  split at h
  · rename_i c
    refine ⟨c.1, c.2, ?_⟩
    unfold outOf at h
    refine Out.wp_imp (Out.wp_bind h) (fun p _ z => ?_) fun _ z => z
    obtain ⟨fl, e⟩ := p
    cases fl <;> exact z
  · exact h.elim
/-- plain arguments, a plain value -/
theorem ok_pure (F : FunD K x qual params body scope [] [] f fd) (S : FnScope N ps scope) (hps : ps.length = n)
    (hb : ∀ (cdv : Value) (A : Around) (outer : List PySem.Env) (s : Shared) (H : Hp) (Fx' : Fx), Rm (cxOf L2.CX0 P w K mg base N qual scope f cdv A outer s H E0).nox k → NoR Fx' → Fx'.fr = .p → DSs (cxOf L2.CX0 P w K mg base N qual scope f cdv A outer s H E0).nox Fx' body fs) :
    FnG P w K mg base L2.CX0 (k + 1) f fd ps (spP ⟨P, w, K⟩ (defP N.length n fs)) := by
  obtain ⟨oc, od, dV, kV, doc, pm, an, cdv, ct, osl, rfl, lk, hcd, _, _⟩ := F.ex
  refine fnG_of lk hcd S (fun vs H Q E ⟨O, ds, _, q, h⟩ => ?_) fun A outer s H vs Q E hr gd ⟨O, ds, hO, q, h⟩ => ?_
  · rw [q.len, (defP_wp (α := Unit) h).1, hps]
  · obtain ⟨h1, h2, h3⟩ := defP_wp (α := Unit) h
    refine ⟨rS ⟨P, w, K⟩ (fxP H O .p) fs, ?_, O, entry N.length ds, rel_entry hO q (by rw [q.len, h1]; exact h2), ?_⟩
    · have z := hb cdv A outer s H (fxP H O .p) ⟨⟨hr.hd, hr.dp, hr.un⟩, gd⟩ (fun _ h => h) rfl
      exact PSs.nox z
    · refine Out.wp_imp h3 (fun p _ z => ?_) fun _ z => z
      obtain ⟨fl, e⟩ := p
      cases fl with
      | nx => exact fun O' σ' H' R _ => z .non H' (fun b o e => R.frm b o e (fun z => z)) .non
      | rt d => exact fun O' σ' v H' R _ qv => z v H' (fun b o e => R.frm b o e (fun z => z)) (Dq.mono R.sub qv)
      | bk => exact z.elim
      | ct => exact z.elim
/-- .. a new list, dict -/
theorem ok_new {kd : Kd} (hkp : kd ≠ .p) (F : FunD K x qual params body scope [] [] f fd) (S : FnScope N ps scope) (hps : ps.length = n)
    (hb : ∀ (cdv : Value) (A : Around) (outer : List PySem.Env) (s : Shared) (H : Hp) (Fx' : Fx), Rm (cxOf L2.CX0 P w K mg base N qual scope f cdv A outer s H E0).nox k → NoR Fx' → Fx'.fr = kd → DSs (cxOf L2.CX0 P w K mg base N qual scope f cdv A outer s H E0).nox Fx' body fs) :
    FnG P w K mg base L2.CX0 (k + 1) f fd ps (spN ⟨P, w, K⟩ kd (defN N.length n fs)) := by
  obtain ⟨oc, od, dV, kV, doc, pm, an, cdv, ct, osl, rfl, lk, hcd, _, _⟩ := F.ex
  have un : ∀ {ds : List D} {P : D → Prop} {R : Exc → Prop}, (defN N.length n fs ds).wp P R → ds.length = n ∧ n ≤ N.length ∧ (fs (entry N.length ds)).wp (fun p => (match p.1 with
    | .rt d => P d
    | _ => False)) R := by
    intro ds P R h
    unfold defN at h
    split at h
    · rename_i c
      refine ⟨c.1, c.2, Out.wp_imp (Out.wp_bind h) (fun p _ z => ?_) fun _ z => z⟩
      obtain ⟨fl, e⟩ := p
      cases fl <;> exact z
    · exact h.elim
  refine fnG_of lk hcd S (fun vs H Q E ⟨O, ds, _, q, h⟩ => ?_) fun A outer s H vs Q E hr gd ⟨O, ds, hO, q, h⟩ => ?_
  · rw [q.len, (un h).1, hps]
  · obtain ⟨h1, h2, h3⟩ := un h
    refine ⟨rS ⟨P, w, K⟩ (fxP H O kd) fs, ?_, O, entry N.length ds, rel_entry hO q (by rw [q.len, h1]; exact h2), ?_⟩
    · have z := hb cdv A outer s H (fxP H O kd) ⟨⟨hr.hd, hr.dp, hr.un⟩, gd⟩ (fun _ h => h) rfl
      exact PSs.nox z
    · refine Out.wp_imp h3 (fun p _ z => ?_) fun _ z => z
      obtain ⟨fl, e⟩ := p
      cases fl with
      | nx => exact z.elim
      | bk => exact z.elim
      | ct => exact z.elim
      | rt d =>
        intro O' σ' v H' R _ qv
        have qv' : ∃ a, v = .ref a ∧ H a = none ∧ Cell ⟨P, w, K⟩ H' (fun b => O' b ∨ b = a) kd a d := by
          unfold RtOk at qv
          cases kd with
          | p => exact absurd rfl hkp
          | m => exact qv
          | q => exact qv
          | dk => exact qv
          | dt => exact qv
        obtain ⟨a, rfl, h0, c⟩ := qv'
        exact z a H' (fun b o e => R.frm b o e (fun z => z)) h0 (c.mono fun b z => z.imp (R.sub b) id)
/-- the first argument a list that it may change -/
theorem ok_mut (F : FunD K x qual params body scope [] [] f fd) (S : FnScope N ps scope) (hps : ps.length = n)
    (hb : ∀ (cdv : Value) (A : Around) (outer : List PySem.Env) (s : Shared) (H : Hp) (Fx' : Fx), Rm (cxOf L2.CX0 P w K mg base N qual scope f cdv A outer s H E0).nox k → NoR Fx' → Fx'.fr = .p → DSs (cxOf L2.CX0 P w K mg base N qual scope f cdv A outer s H E0).nox Fx' body fs) :
    FnG P w K mg base L2.CX0 (k + 1) f fd ps (spM ⟨P, w, K⟩ (defM N.length n fs)) := by
  obtain ⟨oc, od, dV, kV, doc, pm, an, cdv, ct, osl, rfl, lk, hcd, _, _⟩ := F.ex
  have un : ∀ {ls ds : List D} {P : D × List D → Prop} {R : Exc → Prop}, (defM N.length n fs ls ds).wp P R → ds.length + 1 = n ∧ n ≤ N.length ∧ (fs (entryM N.length ls ds)).wp (fun p => ∃ ls', p.2[0]? = some (some ⟨.q, .list ls'⟩) ∧ (match p.1 with
    | .nx => P (.none, ls')
    | .rt d => P (d, ls')
    | _ => False)) R := by
    intro ls ds P R h
    unfold defM at h
    split at h
    · rename_i c
      refine ⟨c.1, c.2, Out.wp_imp (Out.wp_bind h) (fun p _ z => ?_) fun _ z => z⟩
      obtain ⟨fl, e⟩ := p
      dsimp only at z ⊢
      split at z
      · rename_i ls' h0
        refine ⟨ls', h0, ?_⟩
        cases fl <;> exact z
      · exact z.elim
    · exact h.elim
  refine fnG_of lk hcd S (fun vs H Q E ⟨O, a, xs, ls, rest, ds, e, _, _, _, _, _, q, h⟩ => ?_) fun A outer s H vs Q E hr gd ⟨O, a, xs, ls, rest, ds, e, hO, oa, ha, q0, hz, q, h⟩ => ?_
  · have := (un h).1
    rw [e, List.length_cons, q.len, hps]
    omega
  · obtain ⟨h1, h2, h3⟩ := un h
    subst e
    have hl := q.len
    have R0 : Rel ⟨P, w, K⟩ { H0 := H, S := fun b => b = a, Oc := O, R := fun _ => False, fr := .p, E := E0, pn := [] } O (entryM N.length ls ds) (L2.start N (.ref a :: rest)) H := by
      have own : ∀ {i : Nat} {sl : Sl}, (entryM N.length ls ds)[i]? = some (some sl) → (i = 0 ∧ sl = ⟨.q, .list ls⟩) ∨ ∃ d j, i = j + 1 ∧ ds[j]? = some d ∧ sl = ⟨.p, d⟩ := by
        intro i sl h
        cases i with
        | zero =>
          have h : some (some (Sl.mk .q (.list ls))) = some (some sl) := h
          cases h
          exact .inl ⟨rfl, rfl⟩
        | succ j =>
          obtain ⟨d, e1, e2⟩ := entry_slot (show (ds.map (fun d => some (Sl.mk .p d)) ++ List.replicate (N.length - 1 - ds.length) none)[j]? = some (some sl) from h)
          exact .inr ⟨d, j, rfl, e1, e2⟩
      have g0 : (L2.start N (.ref a :: rest))[0]? = some (some (.ref a)) := start_get rfl
      refine ⟨?_, fun i sl e => ?_, fun i j sl sl' b e e' k k' _ _ => ?_, hO, fun _ h => h, fun _ _ e _ => e, hO, fun b h => by rw [h]; exact oa, fun p hp => by cases hp⟩
      · unfold entryM L2.start
        simp only [List.length_append, List.length_map, List.length_replicate, List.length_cons]
        omega
      · rcases own e with ⟨rfl, rfl⟩ | ⟨d, j, rfl, e1, rfl⟩
        · exact ⟨_, g0, .inr ⟨fun z => Kd.noConfusion z, a, rfl, oa, ⟨xs, ls, rfl, ha, q0, hz⟩, fun _ => rfl, fun z => absurd rfl z⟩⟩
        · obtain ⟨v, h1, h2⟩ := q.get e1
          exact ⟨v, start_get (by simpa using h1), .inl ⟨rfl, h2⟩⟩
      · rcases own e with ⟨rfl, rfl⟩ | ⟨d, i', rfl, e1, rfl⟩
        · rcases own e' with ⟨rfl, rfl⟩ | ⟨d, j', rfl, e1, rfl⟩
          · rfl
          · exact absurd rfl k'
        · exact absurd rfl k
    refine ⟨rS ⟨P, w, K⟩ { H0 := H, S := fun b => b = a, Oc := O, R := fun _ => False, fr := .p, E := E0, pn := [] } fs, ?_, O, _, R0, ?_⟩
    · have z := hb cdv A outer s H { H0 := H, S := fun b => b = a, Oc := O, R := fun _ => False, fr := .p, E := E0, pn := [] } ⟨⟨hr.hd, hr.dp, hr.un⟩, gd⟩ (fun _ h => h) rfl
      exact PSs.nox z
    · refine Out.wp_imp h3 (fun p _ z => ?_) fun _ z => z
      obtain ⟨ls', h0, z⟩ := z
      have fin : ∀ {O' σ' H'}, Rel ⟨P, w, K⟩ { H0 := H, S := fun b => b = a, Oc := O, R := fun _ => False, fr := .p, E := E0, pn := [] } O' p.2 σ' H' → Stp O H O' H' → ∃ xs', H' a = some (.lst xs') ∧ DqA ⟨P, w, K⟩ H' O xs' ls' ∧ xs'.length ≤ sizeLine := by
        intro O' σ' H' R s
        obtain ⟨b, e1, ob, cb, hq, _⟩ := R.own h0 (fun z => Kd.noConfusion z)
        have : b = a := hq rfl
        subst this
        obtain ⟨xs', l', e2, e3, e4, e5⟩ := cb
        cases e2
        exact ⟨xs', e3, e4.mono R.sub, e5⟩
      obtain ⟨fl, e⟩ := p
      cases fl with
      | nx =>
        intro O' σ' H' R s
        obtain ⟨xs', e3, e4, e5⟩ := fin R s
        exact z .non H' xs' (fun b o n e => R.frm b o e n) e3 e4 e5 .non
      | rt d =>
        intro O' σ' v H' R s qv
        obtain ⟨xs', e3, e4, e5⟩ := fin R s
        exact z v H' xs' (fun b o n e => R.frm b o e n) e3 e4 e5 (Dq.mono R.sub qv)
      | bk => exact z.elim
      | ct => exact z.elim
end
end WP
end
section
set_option Elab.async false
set_option linter.all false
set_option maxRecDepth 100000
set_option autoImplicit false
/-! W10: operators and built-ins by data. -/
namespace WP
open PySem PySem.Spec PyProof.Rows L2
open PySem.W (alike dataLt minD maxD)

/-! ### data without dicts -/
theorem okN_all {n : Nat} {xs : List D} : xs.all (okN n) = true ↔ ∀ x ∈ xs, okN n x = true := List.all_eq_true
mutual
theorem okN_plain : ∀ (n : Nat) (d : D), okN n d = true → d.plain = true
  | _, .none, _ => rfl
  | _, .bool _, _ => rfl
  | _, .int _, _ => rfl
  | _, .str _, _ => rfl
  | n + 1, .list xs, h => by
    show PyData.plainAll xs = true
    exact okN_plainAll n xs (okN_all.mp h)
  | n + 1, .tuple xs, h => by
    show PyData.plainAll xs = true
    exact okN_plainAll n xs (okN_all.mp h)
  | 0, .list _, h => by cases h
  | 0, .tuple _, h => by cases h
  | 0, .dict _, h => by cases h
  | n + 1, .dict _, h => by cases h
theorem okN_plainAll : ∀ (n : Nat) (xs : List D), (∀ x ∈ xs, okN n x = true) → PyData.plainAll xs = true
  | _, [], _ => rfl
  | n, x :: xs, h => by
    show (x.plain && PyData.plainAll xs) = true
    rw [okN_plain n x (h x List.mem_cons_self), okN_plainAll n xs fun y hy => h y (List.mem_cons_of_mem _ hy)]
    rfl
end
mutual
theorem okN_depth : ∀ (n : Nat) (d : D), okN n d = true → d.depth ≤ n
  | _, .none, _ => Nat.zero_le _
  | _, .bool _, _ => Nat.zero_le _
  | _, .int _, _ => Nat.zero_le _
  | _, .str _, _ => Nat.zero_le _
  | n + 1, .list xs, h => by
    show PyData.depthAll xs + 1 ≤ n + 1
    exact Nat.succ_le_succ (okN_depthAll n xs (okN_all.mp h))
  | n + 1, .tuple xs, h => by
    show PyData.depthAll xs + 1 ≤ n + 1
    exact Nat.succ_le_succ (okN_depthAll n xs (okN_all.mp h))
  | 0, .list _, h => by cases h
  | 0, .tuple _, h => by cases h
  | 0, .dict _, h => by cases h
  | n + 1, .dict _, h => by cases h
theorem okN_depthAll : ∀ (n : Nat) (xs : List D), (∀ x ∈ xs, okN n x = true) → PyData.depthAll xs ≤ n
  | _, [], _ => Nat.zero_le _
  | n, x :: xs, h => by
    show max x.depth (PyData.depthAll xs) ≤ n
    exact Nat.max_le.mpr ⟨okN_depth n x (h x List.mem_cons_self), okN_depthAll n xs fun y hy => h y (List.mem_cons_of_mem _ hy)⟩
end
theorem okD_plain {d : D} (h : okD d = true) : d.plain = true := okN_plain _ d h
theorem okD_depth {d : D} (h : okD d = true) : d.depth ≤ 40 := okN_depth _ d h
theorem okAll_plain {xs : List D} (h : xs.all okD = true) : PyData.plainAll xs = true := okN_plainAll 40 xs (okN_all.mp h)
theorem okAll_depth {xs : List D} (h : xs.all okD = true) : PyData.depthAll xs ≤ 40 := okN_depthAll 40 xs (okN_all.mp h)
section
variable {X : Cx} {pins : List (Addr × Obj)} {s : Shared} {σ : L2.St} {H : Hp} {O : Addr → Prop} {v : V} {u : Value} {d : D}
theorem bq_reads (I : Inv X pins σ H s) (b : Bq (wd X) H O v d) (r : RelV v u) (h : d.plain = true) : ∃ as, Reads s.heap u d as := Dp.reads I d v u (b.dp h) r
theorem dqA_reads (I : Inv X pins σ H s) {vs : List V} {us : List Value} {ds : List D} (b : DqA (wd X) H O vs ds) (r : Vals vs us) (h : PyData.plainAll ds = true) : ∃ as, ReadsAll s.heap us ds as := Dp.readsAll I ds vs us (b.dp h) r
end
theorem BqA.one {W : Wd} {H : Hp} {O : Addr → Prop} {vs : List V} {d : D} (h : BqA W H O vs [d]) : ∃ v, vs = [v] ∧ Bq W H O v d := by
  cases h with
  | cons a b => cases b; exact ⟨_, rfl, a⟩
theorem BqA.two {W : Wd} {H : Hp} {O : Addr → Prop} {vs : List V} {d e : D} (h : BqA W H O vs [d, e]) : ∃ v w, vs = [v, w] ∧ Bq W H O v d ∧ Bq W H O w e := by
  cases h with
  | cons a b =>
    cases b with
    | cons b c => cases c; exact ⟨_, _, rfl, a, b⟩
theorem one_some {f : D → Option D} {ds : List D} {r : D} (h : one f ds = some r) : ∃ d, ds = [d] ∧ f d = some r := by
  unfold one at h
  split at h
  · exact ⟨_, rfl, h⟩
  · cases h
theorem two_some {f : D → D → Option D} {ds : List D} {r : D} (h : two f ds = some r) : ∃ d e, ds = [d, e] ∧ f d e = some r := by
  unfold two at h
  split at h
  · exact ⟨_, _, rfl, h⟩
  · cases h

section
variable {X : Cx}
/-! ### ints -/
theorem ints2 {x y : V} {H : Hp} {O : Addr → Prop} {i j : Int} (bx : Bq (wd X) H O x (.int i)) (by' : Bq (wd X) H O y (.int j)) : x = .int i ∧ y = .int j := ⟨bx.intI, by'.intI⟩
theorem op_subD : OpR X (binaryOp .Sub) (oD (wd X) opSub) := by
  rintro pins s σ H x y v u Q I rx ry ⟨O, d, e, r, hO, bx, b2, er, q⟩
  unfold opSub at er
  split at er
  · cases er
    exact op_sub pins s σ H x y v u Q I rx ry ⟨_, _, bx.intI, b2.intI, q _ H (fun _ _ e => e) (.int _)⟩
  · cases er
theorem mulOk_wide {a b : Int} (h : mulOk a b = true) : IntMulOk a b := by
  unfold mulOk big at h
  simp only [Bool.or_eq_true, Bool.and_eq_true, decide_eq_true_eq] at h
  rcases h with (h | h) | ⟨h1, h2⟩
  · exact CMul.ok (.inl (by omega))
  · exact CMul.ok (.inr (by omega))
  · exact (wide_mul h1 h2 (by decide) (by decide) (by decide)).ok
theorem op_divD : OpR X (binaryOp .FloorDiv) (oD (wd X) opDiv) := by
  rintro pins s σ H x y v u Q I rx ry ⟨O, d, e, r, hO, bx, b2, er, q⟩
  unfold opDiv at er
  split at er
  · split at er
    · rename_i c
      cases er
      exact op_fdiv pins s σ H x y v u Q I rx ry ⟨_, _, bx.intI, b2.intI, c, q _ H (fun _ _ e => e) (.int _)⟩
    · cases er
  · cases er
theorem op_modD : OpR X (binaryOp .Mod) (oD (wd X) opMod) := by
  rintro pins s σ H x y v u Q I rx ry ⟨O, d, e, r, hO, bx, b2, er, q⟩
  unfold opMod at er
  split at er
  · split at er
    · rename_i c
      cases er
      exact op_mod pins s σ H x y v u Q I rx ry ⟨_, _, bx.intI, b2.intI, c, q _ H (fun _ _ e => e) (.int _)⟩
    · cases er
  · cases er
theorem op_powD : OpR X (binaryOp .Pow) (oD (wd X) opPow) := by
  rintro pins s σ H x y v u Q I rx ry ⟨O, d, e, r, hO, bx, b2, er, q⟩
  unfold opPow at er
  split at er
  · split at er
    · rename_i c
      cases er
      exact op_pow pins s σ H x y v u Q I rx ry ⟨_, _, bx.intI, b2.intI, ⟨c.1, c.2.1, by have := c.2.2; unfold big at this; simpa using this⟩, q _ H (fun _ _ e => e) (.int _)⟩
    · cases er
  · cases er
theorem un_negD : UnR X (unaryOp .USub) (uD (wd X) opNeg) := by
  rintro pins s σ H x v Q I rx ⟨O, d, r, hO, bx, er, q⟩
  unfold opNeg at er
  split at er
  · cases er
    exact un_neg pins s σ H x v Q I rx ⟨_, bx.intI, q _ H (fun _ _ e => e) (.int _)⟩
  · cases er
/-! ### a new tuple, its object known; a new list -/
theorem tup_new {pins : List (Addr × Obj)} {s : Shared} {σ : L2.St} {H : Hp} {Q : VK} {us : List Value} {vs : List V} {ds : List D} {O : Addr → Prop} {t' : Nat} (I : Inv X pins σ H s) (r : Vals vs us) (z : vs.length ≤ sizeLine) (qd : DqA (wd X) H O vs ds) (hO : Dom O H)
    (q : ∀ v H', SameH H H' → Dq (wd X) H' O v (.tuple ds) → Q v H') : EP X pins σ Q (.ref s.heap.objs.size) { s with heap := s.heap.push { cls := .type "tuple", data := .seq us.toArray }, toks := t' } := by
  have at' : (s.heap.push { cls := .type "tuple", data := .seq us.toArray }).get? s.heap.objs.size = some { cls := .type "tuple", data := .seq us.toArray } := Heap.get?_push_size _ rfl
  have fr : H s.heap.objs.size = none := I.hok.fresh (Nat.le_refl _)
  have sm : SameH H (upd H s.heap.objs.size (.frz { cls := .type "tuple", data := .seq us.toArray } (.tup vs))) := SameH.upd fr
  have nO : ¬ O s.heap.objs.size := fun h => by
    obtain ⟨o, e⟩ := hO _ h
    rw [fr] at e; cases e
  exact ⟨.ref _, _, I.laid (t' := t') (o := .frz { cls := .type "tuple", data := .seq us.toArray } (.tup vs)) (fun b u e => Heap.get?_push_of_some _ e) (Nat.le_refl _) ⟨at', z, us, r, ⟨_, at', rfl, _, rfl⟩⟩, rfl,
    q _ _ sm (.tup ⟨_, upd_same, rfl⟩ nO (qd.step (.same sm)) z)⟩
end
end WP
end
section
set_option Elab.async false
set_option linter.all false
set_option maxRecDepth 100000
set_option autoImplicit false
/-! W11: sequences by data: +, *, [], slices, in, ==, <. -/
namespace WP
open PySem PySem.Spec PyProof.Rows L2
open PySem.W (alike dataLt minD maxD)

/-- a new list as an operator's answer -/
def oN (W : Wd) (op : D → D → Option D) : R2 := fun x y H Q => ∃ O d e r, Dom O H ∧ Bq W H O x d ∧ Bq W H O y e ∧ op d e = some r ∧ ∀ p H', H p = none → SameH H H' → Cell W H' (fun b => O b ∨ b = p) .m p r → Q (.ref p) H'
def cN (W : Wd) (op : List D → Option D) : List V → Hp → VK → Prop := fun xs H Q => ∃ O ds r, Dom O H ∧ BqA W H O xs ds ∧ op ds = some r ∧ ∀ p H', H p = none → SameH H H' → Cell W H' (fun b => O b ∨ b = p) .m p r → Q (.ref p) H'
section
variable {X : Cx} {pins : List (Addr × Obj)} {s : Shared} {σ : L2.St} {H : Hp} {O : Addr → Prop} {v : V} {u : Value} {d : D} {Q : VK}
theorem cell_new {W : Wd} {p : Addr} {vs : List V} {ds : List D} (hp : H p = none) (q : DqA W H O vs ds) (z : vs.length ≤ sizeLine) : Cell W (upd H p (.lst vs)) (fun b => O b ∨ b = p) .m p (.list ds) :=
  ⟨vs, ds, rfl, upd_same, q.step (stp_grow (SameH.upd hp) hp), z⟩
theorem cell_val {W : Wd} {p : Addr} {r : D} {k : Kd} (hO : Dom O H) (hp : H p = none) {H' : Hp} (c : Cell W H' (fun b => O b ∨ b = p) k p r) : Dq W H' O (.ref p) r :=
  (c.mono fun _ h => .inl h).dq fun h => by obtain ⟨o, e⟩ := hO p h; rw [hp] at e; cases e
theorem Bq.tupV {W : Wd} {ds : List D} (b : Bq W H O v (.tuple ds)) : Dq W H O v (.tuple ds) := by
  cases b with
  | val z => exact z
  | @own k a d z => cases k <;> first | exact z.elim | (obtain ⟨_, _, z, _⟩ := z; cases z)
/-- xs + ys -/
theorem cat_core {a b : Addr} {xs ys : List V} {u w : Value} (I : Inv X pins σ H s) (hx : SqL X.K H a xs) (hy : SqL X.K H b ys) (hz : xs.length + ys.length ≤ sizeLine) (ru : RelV (.ref a) u) (rw' : RelV (.ref b) w)
    (q : ∀ p, H p = none → Q (.ref p) (upd H p (.lst (xs ++ ys)))) : wpAny (model X.prog X.w) X.A (binaryOp .Add u w) (EP X pins σ Q) X.xe s := by
  cases ru
  cases rw'
  obtain ⟨its, r, ⟨⟨cls, dd, data, sl⟩, n, ho, hc, _, hd⟩, _⟩ := I.list hx
  obtain ⟨its2, r2, ⟨⟨cls2, dd2, data2, sl2⟩, n2, ho2, hc2, _, hd2⟩, _⟩ := I.list hy
  simp only at hc hd hc2 hd2
  subst hc hd hc2 hd2
  have z : its.toArray.size + its2.toArray.size ≤ sizeLine := by rw [List.size_toArray, List.size_toArray, ← r.length, ← r2.length]; exact hz
  refine concat_meets ⟨_, ho, rfl⟩ ⟨_, ho2, rfl⟩ noFill_list_add seq_list_add PySem.F.slot_list_add PySem.F.entry_list_add (PySem.F.args_list_add_2 _ _) (list_addW a b its.toArray its2.toArray n n2 dd dd2 sl sl2 z) ⟨ho, ho2, ?_⟩
  have e : its.toArray ++ its2.toArray = (its ++ its2).toArray := by simp
  rw [e]
  exact ⟨.ref _, _, I.lnew (t' := s.toks) (r.append r2) (by rw [List.length_append]; exact hz), rfl, q _ I.fresh⟩
theorem op_addD : OpR X (binaryOp .Add) (oD (wd X) opAdd) := by
  rintro pins s σ H x y v u Q I rx ry ⟨O, d, e, r, hO, bx, b2, er, q⟩
  unfold opAdd at er
  split at er
  · cases er
    exact op_add pins s σ H x y v u Q I rx ry ⟨_, _, bx.intI, b2.intI, q _ H (fun _ _ e => e) (.int _)⟩
  · split at er
    · rename_i c
      cases er
      exact op_add_str pins s σ H x y v u Q I rx ry ⟨_, _, bx.strI, b2.strI, c, q _ H (fun _ _ e => e) (.str _)⟩
    · cases er
  · split at er
    · rename_i c
      cases er
      obtain ⟨a, xs, rfl, hx, qx, _⟩ := bx.listI
      obtain ⟨b, ys, rfl, hy, qy, _⟩ := b2.listI
      have c' : xs.length + ys.length ≤ sizeLine := by rw [qx.len, qy.len]; exact c
      exact cat_core I hx hy c' rx ry fun p hp => q _ _ (SameH.upd hp) (cell_val hO hp (cell_new hp (qx.append qy) (by rw [List.length_append]; exact c')))
    · cases er
  · split at er
    · rename_i c
      cases er
      obtain ⟨a, xs, rfl, hx, tx, qx, _⟩ := bx.tupI
      obtain ⟨b, ys, rfl, hy, ty, qy, _⟩ := b2.tupI
      have c' : xs.length + ys.length ≤ sizeLine := by rw [qx.len, qy.len]; exact c
      have vx := bx.tupV
      have vy := b2.tupV
      cases rx
      cases ry
      obtain ⟨its, r1, p1, _⟩ := I.tuple hx
      obtain ⟨its2, r2, p2, _⟩ := I.tuple hy
      by_cases h0 : its = []
      · subst h0
        cases r1
        cases qx
        exact cat_tup0 p1 p2 ⟨.ref b, H, I, rfl, q _ H (fun _ _ e => e) vy⟩
      · refine HT.cat_tup p1 p2 h0 (fun hw => ?_) (fun hw => ?_) (by rw [← r1.length, ← r2.length]; exact c')
        · subst hw
          cases r2
          cases qy
          exact ⟨.ref a, H, I, rfl, q _ H (fun _ _ e => e) (by rw [List.append_nil]; exact vx)⟩
        · exact tup_new (t' := s.toks) I (r1.append r2) (by rw [List.length_append]; exact c') (qx.append qy) hO q
    · cases er
  · cases er
theorem op_addN : OpR X (binaryOp .Add) (oN (wd X) fun x y => match x, y with
    | .list a, .list b => opAdd (.list a) (.list b)
    | _, _ => none) := by
  rintro pins s σ H x y v u Q I rx ry ⟨O, d, e, r, hO, bx, b2, er, q⟩
  dsimp only at er
  split at er
  · unfold opAdd at er
    dsimp only at er
    split at er
    · rename_i c
      cases er
      obtain ⟨a, xs, rfl, hx, qx, _⟩ := bx.listI
      obtain ⟨b, ys, rfl, hy, qy, _⟩ := b2.listI
      have c' : xs.length + ys.length ≤ sizeLine := by rw [qx.len, qy.len]; exact c
      exact cat_core I hx hy c' rx ry fun p hp => q p _ hp (SameH.upd hp) (cell_new hp (qx.append qy) (by rw [List.length_append]; exact c'))
    · cases er
  · cases er

/-! ### == != < .. in -/
theorem un40 (hr : X.A.units + 64 < cLine) {a b : Nat} (h : a ≤ 40) : X.A.units + min a b < cLine := by omega
theorem op_eqD2 (hr : X.A.units + 64 < cLine) : OpR X (compareOp .Eq) (oD (wd X) opEq) := by
  rintro pins s σ H x y v u Q I rx ry ⟨O, d, e, r, hO, bx, b2, er, q⟩
  unfold opEq at er
  split at er
  · rename_i c
    cases er
    obtain ⟨as, r1⟩ := bq_reads I bx rx (okD_plain c.1)
    obtain ⟨bs, r2⟩ := bq_reads I b2 ry (okD_plain c.2)
    exact SeqAt.eq_plain r1 r2 (okD_plain c.1) (okD_plain c.2) (un40 hr (okD_depth c.1)) ⟨.bl _, H, I, rfl, q _ H (fun _ _ e => e) (.bl _)⟩
  · cases er
theorem op_neD2 (hr : X.A.units + 64 < cLine) : OpR X (compareOp .NotEq) (oD (wd X) opNe) := by
  rintro pins s σ H x y v u Q I rx ry ⟨O, d, e, r, hO, bx, b2, er, q⟩
  unfold opNe at er
  split at er
  · rename_i c
    cases er
    obtain ⟨as, r1⟩ := bq_reads I bx rx (okD_plain c.1)
    obtain ⟨bs, r2⟩ := bq_reads I b2 ry (okD_plain c.2)
    exact SeqAt.ne_plain r1 r2 (okD_plain c.1) (okD_plain c.2) (un40 hr (okD_depth c.1)) ⟨.bl _, H, I, rfl, q _ H (fun _ _ e => e) (.bl _)⟩
  · cases er
theorem ordOk_i {x y : D} (h : ordOk x y = true) : okD x = true ∧ okD y = true ∧ alike x y = true ∧ x ≠ .none := by
  unfold ordOk at h
  simp only [Bool.and_eq_true] at h
  refine ⟨h.1.1.1, h.1.1.2, h.1.2, fun e => ?_⟩
  rw [e] at h
  exact absurd h.2 (by decide)
theorem op_ltD (hr : X.A.units + 64 < cLine) : OpR X (compareOp .Lt) (oD (wd X) opLt) := by
  rintro pins s σ H x y v u Q I rx ry ⟨O, d, e, r, hO, bx, b2, er, q⟩
  unfold opLt at er
  split at er
  · cases er
    exact op_lt pins s σ H x y v u Q I rx ry ⟨_, _, bx.intI, b2.intI, q _ H (fun _ _ e => e) (.bl _)⟩
  · split at er
    · rename_i c
      cases er
      obtain ⟨c1, c2, c3, c4⟩ := ordOk_i c
      obtain ⟨as, r1⟩ := bq_reads I bx rx (okD_plain c1)
      obtain ⟨bs, r2⟩ := bq_reads I b2 ry (okD_plain c2)
      exact PySem.W.lt_data r1 r2 c3 c4 (un40 hr (okD_depth c1)) ⟨.bl _, H, I, rfl, q _ H (fun _ _ e => e) (.bl _)⟩
    · cases er
theorem op_leD (hr : X.A.units + 64 < cLine) : OpR X (compareOp .LtE) (oD (wd X) opLe) := by
  rintro pins s σ H x y v u Q I rx ry ⟨O, d, e, r, hO, bx, b2, er, q⟩
  unfold opLe at er
  split at er
  · cases er
    exact op_le pins s σ H x y v u Q I rx ry ⟨_, _, bx.intI, b2.intI, q _ H (fun _ _ e => e) (.bl _)⟩
  · split at er
    · rename_i c
      cases er
      obtain ⟨c1, c2, c3, c4⟩ := ordOk_i c
      obtain ⟨as, r1⟩ := bq_reads I bx rx (okD_plain c1)
      obtain ⟨bs, r2⟩ := bq_reads I b2 ry (okD_plain c2)
      exact PySem.W.le_data r1 r2 c3 c4 (un40 hr (okD_depth c1)) ⟨.bl _, H, I, rfl, q _ H (fun _ _ e => e) (.bl _)⟩
    · cases er
theorem op_gtD (hr : X.A.units + 64 < cLine) : OpR X (compareOp .Gt) (oD (wd X) opGt) := by
  rintro pins s σ H x y v u Q I rx ry ⟨O, d, e, r, hO, bx, b2, er, q⟩
  unfold opGt at er
  split at er
  · cases er
    exact op_gt pins s σ H x y v u Q I rx ry ⟨_, _, bx.intI, b2.intI, q _ H (fun _ _ e => e) (.bl _)⟩
  · split at er
    · rename_i c
      cases er
      obtain ⟨c1, c2, c3, c4⟩ := ordOk_i c
      obtain ⟨as, r1⟩ := bq_reads I bx rx (okD_plain c1)
      obtain ⟨bs, r2⟩ := bq_reads I b2 ry (okD_plain c2)
      exact PySem.W.gt_data r1 r2 c3 c4 (un40 hr (okD_depth c1)) ⟨.bl _, H, I, rfl, q _ H (fun _ _ e => e) (.bl _)⟩
    · cases er
theorem op_geD (hr : X.A.units + 64 < cLine) : OpR X (compareOp .GtE) (oD (wd X) opGe) := by
  rintro pins s σ H x y v u Q I rx ry ⟨O, d, e, r, hO, bx, b2, er, q⟩
  unfold opGe at er
  split at er
  · cases er
    exact op_ge pins s σ H x y v u Q I rx ry ⟨_, _, bx.intI, b2.intI, q _ H (fun _ _ e => e) (.bl _)⟩
  · split at er
    · rename_i c
      cases er
      obtain ⟨c1, c2, c3, c4⟩ := ordOk_i c
      obtain ⟨as, r1⟩ := bq_reads I bx rx (okD_plain c1)
      obtain ⟨bs, r2⟩ := bq_reads I b2 ry (okD_plain c2)
      exact PySem.W.ge_data r1 r2 c3 c4 (un40 hr (okD_depth c1)) ⟨.bl _, H, I, rfl, q _ H (fun _ _ e => e) (.bl _)⟩
    · cases er
theorem plain_list {ys : List D} (h : ys.all okD = true) : (PyData.list ys).plain = true := okAll_plain h
theorem plain_tuple {ys : List D} (h : ys.all okD = true) : (PyData.tuple ys).plain = true := okAll_plain h
theorem op_inD2 (hr : X.A.units + 64 < cLine) : OpR X (compareOp .In) (oD (wd X) opIn) := by
  rintro pins s σ H x y v u Q I rx ry ⟨O, d, e, r, hO, bx, b2, er, q⟩
  unfold opIn at er
  split at er
  · split at er
    · rename_i c
      cases er
      obtain ⟨as, r1⟩ := bq_reads I bx rx (okD_plain c.1)
      obtain ⟨bs, r2⟩ := bq_reads I b2 ry (plain_list c.2)
      exact SeqAt.in_list_data r2 r1 (okAll_plain c.2) (okD_plain c.1) (by have := okAll_depth c.2; omega) ⟨.bl _, H, I, rfl, q _ H (fun _ _ e => e) (.bl _)⟩
    · cases er
  · split at er
    · rename_i c
      cases er
      obtain ⟨as, r1⟩ := bq_reads I bx rx (okD_plain c.1)
      obtain ⟨bs, r2⟩ := bq_reads I b2 ry (plain_tuple c.2)
      exact SeqAt.in_tuple_data r2 r1 (okAll_plain c.2) (okD_plain c.1) (by have := okAll_depth c.2; omega) ⟨.bl _, H, I, rfl, q _ H (fun _ _ e => e) (.bl _)⟩
    · cases er
  · cases er
theorem op_notInD2 (hr : X.A.units + 64 < cLine) : OpR X (compareOp .NotIn) (oD (wd X) opNotIn) := by
  rintro pins s σ H x y v u Q I rx ry ⟨O, d, e, r, hO, bx, b2, er, q⟩
  unfold opNotIn at er
  split at er
  · rename_i k ek
    cases er
    unfold opIn at ek
    split at ek
    · split at ek
      · rename_i c
        cases ek
        obtain ⟨as, r1⟩ := bq_reads I bx rx (okD_plain c.1)
        obtain ⟨bs, r2⟩ := bq_reads I b2 ry (plain_list c.2)
        exact SeqAt.notIn_list_data r2 r1 (okAll_plain c.2) (okD_plain c.1) (by have := okAll_depth c.2; omega) ⟨.bl _, H, I, rfl, q _ H (fun _ _ e => e) (.bl _)⟩
      · cases ek
    · split at ek
      · rename_i c
        cases ek
        obtain ⟨as, r1⟩ := bq_reads I bx rx (okD_plain c.1)
        obtain ⟨bs, r2⟩ := bq_reads I b2 ry (plain_tuple c.2)
        exact SeqAt.notIn_tuple_data r2 r1 (okAll_plain c.2) (okD_plain c.1) (by have := okAll_depth c.2; omega) ⟨.bl _, H, I, rfl, q _ H (fun _ _ e => e) (.bl _)⟩
      · cases ek
    · cases ek
  · cases er
theorem isNone_v {W : Wd} (b : Bq W H O v d) : isNone d = decide (v = .non) := by
  cases b with
  | val q => cases q <;> rfl
  | @own k a d c => cases k <;> first | exact c.elim | (obtain ⟨_, _, e, _⟩ := c; subst e; rfl)
theorem op_isND : OpR X (compareOp .Is) (oD (wd X) opIsN) := by
  rintro pins s σ H x y v u Q I rx ry ⟨O, d, e, r, hO, bx, b2, er, q⟩
  unfold opIsN at er
  split at er
  · cases er
    refine op_isN pins s σ H x y v u Q I rx ry ⟨b2.noneI, ?_⟩
    rw [isNone_v bx] at q
    exact q _ H (fun _ _ e => e) (.bl _)
  · cases er
theorem op_notND : OpR X (compareOp .IsNot) (oD (wd X) opNotN) := by
  rintro pins s σ H x y v u Q I rx ry ⟨O, d, e, r, hO, bx, b2, er, q⟩
  unfold opNotN at er
  split at er
  · cases er
    refine op_notN pins s σ H x y v u Q I rx ry ⟨b2.noneI, ?_⟩
    rw [isNone_v bx] at q
    exact q _ H (fun _ _ e => e) (.bl _)
  · cases er
end
end WP
end
section
set_option Elab.async false
set_option linter.all false
set_option maxRecDepth 100000
set_option autoImplicit false
/-! W12: dicts by tuples. -/
namespace WP
open PySem PySem.Spec PyProof.Rows L2

/-! ### keys as data -/
theorem keyD_eqv (a b : Key) : PyData.eqv (keyD a) (keyD b) = decide (a = b) := by
  cases a with
  | inl i => cases b with
    | inl j => by_cases h : i = j <;> simp [keyD, PyData.eqv, h]
    | inr y => simp [keyD, PyData.eqv]
  | inr x => cases b with
    | inl j => simp [keyD, PyData.eqv]
    | inr y => by_cases h : x = y <;> simp [keyD, PyData.eqv, h]
theorem keysD_eqv : ∀ as bs : List Key, PyData.eqvAll (as.map keyD) (bs.map keyD) = decide (as = bs)
  | [], [] => by simp [PyData.eqvAll]
  | [], _ :: _ => by simp [PyData.eqvAll]
  | _ :: _, [] => by simp [PyData.eqvAll]
  | a :: as, b :: bs => by
    simp only [List.map_cons, PyData.eqvAll, keyD_eqv a b, keysD_eqv as bs]
    by_cases h : a = b <;> by_cases h' : as = bs <;> simp [h, h']
theorem tupD_eqv (as bs : List Key) : PyData.eqv (.tuple (as.map keyD)) (.tuple (bs.map keyD)) = decide (as = bs) := by
  simp only [PyData.eqv]
  exact keysD_eqv as bs
theorem keyF_k {d : D} (h : keyF d = true) : ∃ k, d = keyD k := by
  cases d with
  | int i => exact ⟨.inl i, rfl⟩
  | str x => exact ⟨.inr x, rfl⟩
  | none => cases h
  | bool _ => cases h
  | list _ => cases h
  | tuple _ => cases h
  | dict _ => cases h
theorem keysF_k : ∀ {ds : List D}, ds.all keyF = true → ∃ ks : List Key, ds = ks.map keyD
  | [], _ => ⟨[], rfl⟩
  | d :: ds, h => by
    rw [List.all_cons, Bool.and_eq_true] at h
    obtain ⟨k, e⟩ := keyF_k h.1
    obtain ⟨ks, e2⟩ := keysF_k h.2
    exact ⟨k :: ks, by rw [e, e2]; rfl⟩
theorem keyT_k {d : D} (h : keyT d = true) : ∃ ks : List Key, d = .tuple (ks.map keyD) := by
  cases d with
  | tuple ds =>
    obtain ⟨ks, e⟩ := keysF_k (show ds.all keyF = true from h)
    exact ⟨ks, by rw [e]⟩
  | int _ => cases h
  | str _ => cases h
  | none => cases h
  | bool _ => cases h
  | list _ => cases h
  | dict _ => cases h
theorem key_v {W : Wd} {H : Hp} {O : Addr → Prop} {v : V} {k : Key} (q : Dq W H O v (keyD k)) : v = kV k := by
  cases k with
  | inl i => exact q.intI
  | inr x => exact q.strI
theorem keys_v {W : Wd} {H : Hp} {O : Addr → Prop} : ∀ {vs : List V} {ks : List Key}, DqA W H O vs (ks.map keyD) → vs = ks.map kV
  | _, [], .nil => rfl
  | _, k :: ks, .cons a b => by rw [key_v a, keys_v b]; rfl
theorem keys_q {W : Wd} {H : Hp} {O : Addr → Prop} : ∀ ks : List Key, DqA W H O (ks.map kV) (ks.map keyD)
  | [] => .nil
  | .inl i :: ks => .cons (.int i) (keys_q ks)
  | .inr x :: ks => .cons (.str x) (keys_q ks)
theorem ky_v {W : Wd} {H : Hp} {O : Addr → Prop} {v : V} {ks : List Key} (b : Dq W H O v (.tuple (ks.map keyD))) : ∃ t, v = .ref t ∧ KyT W H O t ks := by
  cases b with
  | tup r n q z => rw [keys_v q] at r; exact ⟨_, rfl, .inl ⟨r, n⟩⟩
  | tupK r q => rw [keys_v q] at r; exact ⟨_, rfl, .inr r⟩
theorem KyT.dq {W : Wd} {H : Hp} {O : Addr → Prop} {t : Addr} {ks : List Key} (k : KyT W H O t ks) (z : ks.length ≤ sizeLine) : Dq W H O (.ref t) (.tuple (ks.map keyD)) := by
  rcases k with ⟨r, n⟩ | r
  · exact .tup r n (keys_q ks) (by rw [List.length_map]; exact z)
  · exact .tupK r (keys_q ks)
theorem KyT.size {X : Cx} {pins : List (Addr × Obj)} {s : Shared} {σ : L2.St} {H : Hp} {O : Addr → Prop} {t : Addr} {ks : List Key} (I : Inv X pins σ H s) (k : KyT (wd X) H O t ks) : ks.length ≤ sizeLine := by
  have h : SqT X.K H t (ks.map kV) := k.elim (fun r => sqT_of r.1) sqT_ofK
  obtain ⟨_, _, _, z⟩ := I.tuple h
  rwa [List.length_map] at z
theorem ky_is {X : Cx} {pins : List (Addr × Obj)} {s : Shared} {σ : L2.St} {H : Hp} {O : Addr → Prop} {t : Addr} {ks : List Key} (I : Inv X pins σ H s) (k : KyT (wd X) H O t ks) : (tupleKind (mixKind X.prog X.w)).is s.heap ks t := by
  have h : SqT X.K H t (ks.map kV) := k.elim (fun r => sqT_of r.1) sqT_ofK
  obtain ⟨its, r, ⟨o, e, c, n, d⟩, z⟩ := I.tuple h
  exact ⟨o, its.toArray, n, e, c, d, by rw [List.toList_toArray]; exact items_are r⟩

abbrev KRow (W : Wd) (H : Hp) (O : Addr → Prop) : List Key × V → List Key × Addr × Value → Prop := fun p q => p.1 = q.1 ∧ KyT W H O q.2.1 p.1 ∧ RelV p.2 q.2.2
abbrev KRows (W : Wd) (H : Hp) (O : Addr → Prop) : List (List Key × V) → List (List Key × Addr × Value) → Prop := Paired (KRow W H O)
theorem at_cons {α : Type} [DecidableEq α] (q : α × Addr × Value) (qs : List (α × Addr × Value)) (k : α) : atKey (q :: qs) k = if q.1 = k then some q.2 else atKey qs k := by
  unfold atKey
  rw [List.find?_cons]
  by_cases e : q.1 = k
  · rw [if_pos e, decide_eq_true e]; rfl
  · rw [if_neg e, decide_eq_false e]
theorem val_cons {α : Type} [DecidableEq α] (q : α × V) (qs : List (α × V)) (k : α) : valV (q :: qs) k = if q.1 = k then some q.2 else valV qs k := by
  unfold valV
  rw [List.find?_cons]
  by_cases e : q.1 = k
  · rw [if_pos e, decide_eq_true e]; rfl
  · rw [if_neg e, decide_eq_false e]
theorem rows_val {W : Wd} {H : Hp} {O : Addr → Prop} {l : List (List Key × V)} {xs : List (List Key × Addr × Value)} (r : KRows W H O l xs) (k : List Key) : RelO (valV l k) ((atKey xs k).map (·.2)) := by
  induction r with
  | nil => exact True.intro
  | @cons p q ps qs h t ih =>
    rw [at_cons, val_cons]
    by_cases e : p.1 = k
    · rw [if_pos e, if_pos (h.1.symm.trans e)]; exact h.2.2
    · rw [if_neg e, if_neg fun z => e (h.1.trans z)]; exact ih
theorem rows_put {W : Wd} {H : Hp} {O : Addr → Prop} {l : List (List Key × V)} {xs : List (List Key × Addr × Value)} (r : KRows W H O l xs) (k : List Key) {b : Addr} {y : V} {u : Value} (kb : KyT W H O b k) (ry : RelV y u) : KRows W H O (putK l k y) (storedH xs k b u) := by
  have e : (l.any fun p => decide (p.1 = k)) = (atKey xs k).isSome := by
    have z := (rows_val r k).isSome_eq
    rw [Option.isSome_map] at z
    rw [valV_any, z]
  unfold putK storedH
  rw [e]
  cases (atKey xs k).isSome with
  | false => exact r.snoc ⟨rfl, kb, ry⟩
  | true =>
    rw [if_pos rfl, if_pos rfl]
    clear e
    induction r with
    | nil => exact .nil
    | @cons p q ps qs h t ih =>
      refine .cons ?_ ih
      unfold putAt
      dsimp only
      by_cases z : p.1 = k
      · rw [if_pos z, if_pos (h.1.symm.trans z)]; exact ⟨h.1, h.2.1, ry⟩
      · rw [if_neg z, if_neg fun m => z (h.1.trans m)]; exact h
/-- what a key's value is, as data -/
theorem dget_row {W : Wd} {H : Hp} {O : Addr → Prop} (ks : List Key) : ∀ {l : List (List Key × V)} {kvs : List (D × D)}, kvs.map (·.1) = l.map (fun p => .tuple (p.1.map keyD)) → DqA W H O (l.map (·.2)) (kvs.map (·.2)) →
    (valV l ks = none ∧ dGet kvs (.tuple (ks.map keyD)) = none) ∨ ∃ v d, valV l ks = some v ∧ dGet kvs (.tuple (ks.map keyD)) = some d ∧ Dq W H O v d
  | [], [], _, _ => .inl ⟨rfl, rfl⟩
  | [], _ :: _, e, _ => by cases e
  | _ :: _, [], e, _ => by cases e
  | (k, v) :: l, (kd, d) :: kvs, e, q => by
    rw [List.map_cons, List.map_cons] at e
    injection e with e1 e2
    dsimp only at e1
    subst e1
    cases q with
    | cons q1 q2 =>
      have hd : dGet ((PyData.tuple (k.map keyD), d) :: kvs) (.tuple (ks.map keyD)) = if k = ks then some d else dGet kvs (.tuple (ks.map keyD)) := by
        unfold dGet
        rw [List.find?_cons]
        dsimp only
        rw [tupD_eqv]
        by_cases z : k = ks
        · rw [if_pos z, decide_eq_true z]; rfl
        · rw [if_neg z, decide_eq_false z]
      rw [val_cons, hd]
      by_cases z : k = ks
      · rw [if_pos z, if_pos z]; exact .inr ⟨v, d, rfl, rfl, q1⟩
      · rw [if_neg z, if_neg z]; exact dget_row ks e2 q2
theorem dput_row {W : Wd} {H : Hp} {O : Addr → Prop} {l : List (List Key × V)} {kvs : List (D × D)} (ks : List Key) {v : V} {d : D} (qv : Dq W H O v d) (e : kvs.map (·.1) = l.map (fun p => .tuple (p.1.map keyD))) (q : DqA W H O (l.map (·.2)) (kvs.map (·.2))) :
    (dPut kvs (.tuple (ks.map keyD)) d).map (·.1) = (putK l ks v).map (fun p => .tuple (p.1.map keyD)) ∧ DqA W H O ((putK l ks v).map (·.2)) ((dPut kvs (.tuple (ks.map keyD)) d).map (·.2)) := by
  have hany : ∀ {l : List (List Key × V)} {kvs : List (D × D)}, kvs.map (·.1) = l.map (fun p => .tuple (p.1.map keyD)) → (kvs.any fun p => PyData.eqv p.1 (.tuple (ks.map keyD))) = l.any fun p => decide (p.1 = ks) := by
    intro l
    induction l with
    | nil => intro kvs e; cases kvs with
      | nil => rfl
      | cons _ _ => cases e
    | cons p l ih => intro kvs e; cases kvs with
      | nil => cases e
      | cons r kvs =>
        rw [List.map_cons, List.map_cons] at e
        injection e with e1 e2
        rw [List.any_cons, List.any_cons, e1, tupD_eqv, ih e2]
  have hmap : ∀ {l : List (List Key × V)} {kvs : List (D × D)}, kvs.map (·.1) = l.map (fun p => .tuple (p.1.map keyD)) → DqA W H O (l.map (·.2)) (kvs.map (·.2)) →
      (kvs.map fun p => if PyData.eqv p.1 (.tuple (ks.map keyD)) then (p.1, d) else p).map (·.1) = (l.map fun kv => if kv.1 = ks then (kv.1, v) else kv).map (fun p => .tuple (p.1.map keyD)) ∧
      DqA W H O ((l.map fun kv => if kv.1 = ks then (kv.1, v) else kv).map (·.2)) ((kvs.map fun p => if PyData.eqv p.1 (.tuple (ks.map keyD)) then (p.1, d) else p).map (·.2)) := by
    intro l
    induction l with
    | nil => intro kvs e q; cases kvs with
      | nil => exact ⟨rfl, .nil⟩
      | cons _ _ => cases e
    | cons p l ih => intro kvs e q; cases kvs with
      | nil => cases e
      | cons r kvs =>
        rw [List.map_cons, List.map_cons] at e
        injection e with e1 e2
        cases q with
        | cons q1 q2 =>
          obtain ⟨i1, i2⟩ := ih e2 q2
          rw [List.map_cons, List.map_cons, List.map_cons, List.map_cons, List.map_cons, List.map_cons, i1, e1, tupD_eqv]
          by_cases z : p.1 = ks
          · rw [if_pos z, if_pos (decide_eq_true z)]
            exact ⟨by rfl, .cons qv i2⟩
          · rw [if_neg z, if_neg (by rw [decide_eq_false z]; exact Bool.false_ne_true)]
            exact ⟨by rw [e1], .cons q1 i2⟩
  unfold dPut putK
  rw [hany e]
  by_cases c : (l.any fun p => decide (p.1 = ks)) = true
  · rw [if_pos c, if_pos c]; exact hmap e q
  · rw [if_neg c, if_neg c]
    refine ⟨by rw [List.map_append, List.map_append, e]; rfl, ?_⟩
    rw [List.map_append, List.map_append]
    exact q.append (.cons qv .nil)
/-- a tuple dict, as the library has it -/
theorem DTr.of {X : Cx} {pins : List (Addr × Obj)} {s : Shared} {σ : L2.St} {H : Hp} {O : Addr → Prop} {a : Addr} {l : List (List Key × V)} (I : Inv X pins σ H s) (t : DTr (wd X) H O a l) :
    l.length ≤ sizeLine ∧ (a == sysModules) = false ∧ ∃ xs, KRows (wd X) H O l xs ∧ s.heap.DictOfH (tupleKind (mixKind X.prog X.w)) a xs := by
  obtain ⟨z, y, o, es, ep, xs, e, x1, x2, x3, x4, x5, x6⟩ := t
  refine ⟨z, y, xs, x6, o, es, ep, (I.hok a _ e).1, x1, x3, x4, fun x hx => ?_, x5⟩
  have all : ∀ {l : List (List Key × V)} {m : List (List Key × Addr × Value)}, KRows (wd X) H O l m → ∀ x ∈ m, (tupleKind (mixKind X.prog X.w)).is s.heap x.1 x.2.1 := by
    intro l m q
    induction q with
    | nil => intro x hx; cases hx
    | @cons p q ps qs h t ih =>
      intro x hx
      rcases List.mem_cons.mp hx with e | hx
      · subst e; rw [← h.1]; exact ky_is I h.2.1
      · exact ih x hx
  exact all x6 x hx
section
variable {W : Wd} {H : Hp} {O : Addr → Prop} {v : V} {kvs : List (D × D)}
/-- a dict by tuples, one's own or not -/
def DtV (W : Wd) (H : Hp) (O : Addr → Prop) (v : V) (kvs : List (D × D)) : Prop := ∃ a l, v = .ref a ∧ DTr W H O a l ∧ kvs.map (·.1) = l.map (fun p => .tuple (p.1.map keyD)) ∧ DqA W H O (l.map (·.2)) (kvs.map (·.2))
/-- which of the two it is, the data do not say where it is empty: where it was made does -/
theorem Bq.dict (b : Bq W H O v (.dict kvs)) : DtV W H O v kvs ∨ ∃ a l, v = .ref a ∧ Rd H a (.dK l) ∧ kvs.map (·.1) = l.map (fun p => keyD p.1) ∧ DqA W H O (l.map (·.2)) (kvs.map (·.2)) := by
  cases b with
  | val q =>
    cases q with
    | dk r n e q => exact .inr ⟨_, _, rfl, .inl r, e, q⟩
    | dt r n e q => exact .inl ⟨_, _, rfl, r, e, q⟩
  | @own k a d c =>
    cases k with
    | p => exact c.elim
    | m => obtain ⟨_, _, e, _⟩ := c; cases e
    | q => obtain ⟨_, _, e, _⟩ := c; cases e
    | dk => obtain ⟨l, kvs', e, h, e2, q⟩ := c; cases e; exact .inr ⟨_, l, rfl, .inl h, e2, q⟩
    | dt => obtain ⟨l, kvs', e, h, e2, q⟩ := c; cases e; exact .inl ⟨_, l, rfl, h, e2, q⟩
def isT : List (D × D) → Bool
  | (k, _) :: _ => keyT k
  | [] => false
theorem dtv_of (b : Bq W H O v (.dict kvs)) (h : isT kvs = true) : DtV W H O v kvs := by
  rcases b.dict with z | ⟨a, l, _, _, e, _⟩
  · exact z
  · cases kvs with
    | nil => cases h
    | cons r kvs =>
      cases l with
      | nil => cases e
      | cons p l =>
        rw [List.map_cons, List.map_cons] at e
        injection e with e1 _
        have h : keyT r.1 = true := h
        rw [e1] at h
        cases p with
        | mk k v => cases k <;> cases h
end
def opHas (x c : D) : Option D := match c with
  | .dict kvs => if keyT x = true ∧ isT kvs = true then some (.bool (dGet kvs x).isSome) else opIn x c
  | _ => opIn x c
def opHasNot (x c : D) : Option D := match c with
  | .dict kvs => if keyT x = true ∧ isT kvs = true then some (.bool (!(dGet kvs x).isSome)) else opNotIn x c
  | _ => opNotIn x c
def opAt (c k : D) : Option D := match c with
  | .dict kvs => if keyT k = true ∧ isT kvs = true then dGet kvs k else none
  | _ => opIx c k
section
variable {X : Cx}
theorem op_hasD (hr : X.A.units + 64 < cLine) : OpR X (compareOp .In) (oD (wd X) opHas) := by
  rintro pins s σ H x y v u Q I rx ry ⟨O, d, e, r, hO, bx, b2, er, q⟩
  unfold opHas at er
  split at er
  · split at er
    · rename_i kvs c
      cases er
      obtain ⟨ks, rfl⟩ := keyT_k c.1
      obtain ⟨t, rfl, kt⟩ := ky_v bx.tupV
      obtain ⟨a, l, rfl, td, e1, e2⟩ := dtv_of b2 c.2
      cases rx
      cases ry
      obtain ⟨z, hd, xs, rw', dd⟩ := td.of I
      refine wpAny_in_heap (tupleKind_room_in1 (by omega)) (ky_is I kt) hd dd ?_
      refine ⟨.bl _, H, I.tok _, rfl, ?_⟩
      have z1 := (rows_val rw' ks).isSome_eq
      rw [Option.isSome_map] at z1
      rw [← z1]
      have z2 : (valV l ks).isSome = (dGet kvs (.tuple (ks.map keyD))).isSome := by
        rcases dget_row ks e1 e2 with ⟨p1, p2⟩ | ⟨v, d, p1, p2, _⟩ <;> rw [p1, p2] <;> rfl
      rw [z2]
      exact q _ H (fun _ _ e => e) (.bl _)
    · exact op_inD2 hr pins s σ H x y v u Q I rx ry ⟨O, _, _, r, hO, bx, b2, er, q⟩
  · exact op_inD2 hr pins s σ H x y v u Q I rx ry ⟨O, _, _, r, hO, bx, b2, er, q⟩
theorem op_hasNotD (hr : X.A.units + 64 < cLine) : OpR X (compareOp .NotIn) (oD (wd X) opHasNot) := by
  rintro pins s σ H x y v u Q I rx ry ⟨O, d, e, r, hO, bx, b2, er, q⟩
  unfold opHasNot at er
  split at er
  · split at er
    · rename_i kvs c
      cases er
      obtain ⟨ks, rfl⟩ := keyT_k c.1
      obtain ⟨t, rfl, kt⟩ := ky_v bx.tupV
      obtain ⟨a, l, rfl, td, e1, e2⟩ := dtv_of b2 c.2
      cases rx
      cases ry
      obtain ⟨z, hd, xs, rw', dd⟩ := td.of I
      refine wpAny_notIn_heap (tupleKind_room_in1 (by omega)) (ky_is I kt) hd dd ?_
      refine ⟨.bl _, H, I.tok _, rfl, ?_⟩
      have z1 := (rows_val rw' ks).isSome_eq
      rw [Option.isSome_map] at z1
      rw [← z1]
      have z2 : (valV l ks).isSome = (dGet kvs (.tuple (ks.map keyD))).isSome := by
        rcases dget_row ks e1 e2 with ⟨p1, p2⟩ | ⟨v, d, p1, p2, _⟩ <;> rw [p1, p2] <;> rfl
      rw [z2]
      exact q _ H (fun _ _ e => e) (.bl _)
    · exact op_notInD2 hr pins s σ H x y v u Q I rx ry ⟨O, _, _, r, hO, bx, b2, er, q⟩
  · exact op_notInD2 hr pins s σ H x y v u Q I rx ry ⟨O, _, _, r, hO, bx, b2, er, q⟩
theorem ixOf_ix (n : Nat) (i : Int) : ixOf n i = ixN n i := rfl
theorem ix_seqD : IxR X (oD (wd X) opIx) := by
  rintro value slice pins s σ H x y v u Q I rx ry ⟨O, d, e, r, hO, bx, b2, er, q⟩ hs
  unfold opIx at er
  split at er
  · rename_i ds i
    obtain ⟨a, xs, rfl, hx, qx, _⟩ := bx.listI
    have ey := b2.intI
    subst ey
    obtain ⟨j, e1, e2⟩ := Option.bind_eq_some_iff.mp er
    obtain ⟨w, ew, qw⟩ := qx.get e2
    refine ix_list value slice pins s σ H _ _ v u Q I rx ry ⟨a, xs, i, w, rfl, rfl, hx, ?_, q w H (fun _ _ e => e) qw⟩ hs
    unfold atI
    rw [qx.len, ← ixOf_ix, e1]; exact ew
  · rename_i ds i
    obtain ⟨a, xs, rfl, hx, _, qx, _⟩ := bx.tupI
    have ey := b2.intI
    subst ey
    obtain ⟨j, e1, e2⟩ := Option.bind_eq_some_iff.mp er
    obtain ⟨w, ew, qw⟩ := qx.get e2
    refine ix_tup value slice pins s σ H _ _ v u Q I rx ry ⟨a, xs, i, w, rfl, rfl, hx, ?_, q w H (fun _ _ e => e) qw⟩ hs
    unfold atI
    rw [qx.len, ← ixOf_ix, e1]; exact ew
  · cases er
theorem ix_atD (hr : X.A.units + 64 < cLine) : IxR X (oD (wd X) opAt) := by
  rintro value slice pins s σ H x y v u Q I rx ry ⟨O, d, e, r, hO, bx, b2, er, q⟩ hs
  unfold opAt at er
  split at er
  · split at er
    · rename_i kvs c
      obtain ⟨ks, rfl⟩ := keyT_k c.1
      obtain ⟨t, rfl, kt⟩ := ky_v b2.tupV
      obtain ⟨a, l, rfl, td, e1, e2⟩ := dtv_of bx c.2
      cases rx
      cases ry
      obtain ⟨z, hd, xs, rw', dd⟩ := td.of I
      rcases dget_row ks e1 e2 with ⟨p1, p2⟩ | ⟨w, d, p1, p2, qw⟩
      · rw [p2] at er; cases er
      · rw [p2] at er; cases er
        have z1 := rows_val rw' ks
        rw [p1] at z1
        cases hat : atKey xs ks with
        | none => rw [hat] at z1; exact z1.elim
        | some p =>
          rw [hat] at z1
          refine subscriptTail_builtinR (x := p.2) dd.typeIs slot_dict_getitem.lookup ?_ hs
          exact wpAny_getItem_heap (tupleKind_room_in1 (by omega)) (ky_is I kt) dd hat ⟨rfl, w, H, I.tok _, z1, q w H (fun _ _ e => e) qw⟩
    · cases er
  · exact ix_seqD value slice pins s σ H x y v u Q I rx ry ⟨O, _, _, r, hO, bx, b2, er, q⟩ hs
end
end WP
end
section
set_option Elab.async false
set_option linter.all false
set_option maxRecDepth 100000
set_option autoImplicit false
/-! W13: displays of dicts, slices. -/
namespace WP
open PySem PySem.Spec PyProof.Rows L2
/-- {k: v}, k a tuple -/
def eD1 (f g : EF) : EF := fun env => (f env).bind fun p => (g p.2).bind fun q => if keyT p.1 = true then .ok (.dict [(p.1, q.1)], q.2) else .bad
section
variable {W : Wd} {F : Fx} {O O' : Addr → Prop} {env env' : Env} {σ σ' : L2.St} {H H' : Hp}
/-- a pinned thing is changed -/
theorem Rel.rePin {t : Addr} {o o' : HO} {pn : List (Addr × HO)} (R : Rel W (F.pin ((t, o) :: pn)) O env σ H) (hpn : ∀ p ∈ pn, p.1 ≠ t) (h0 : F.H0 t = none) : Rel W (F.pin ((t, o') :: pn)) O env σ (upd H t o') ∧ Stp O H O (upd H t o') := by
  obtain ⟨c1, c2, c3⟩ := R.pin _ List.mem_cons_self
  dsimp only at c1 c2 c3
  have st : Stp O H O (upd H t o') := ⟨fun b u e n => by rw [upd_ne (fun z => n (by rw [z]; exact c2))]; exact e, fun _ h => .inl h⟩
  refine ⟨⟨R.len, fun i sl e => ?_, R.sep, fun b hb => ?_, R.sub, fun b u e n => ?_, R.dom0, R.ss, fun p hp => ?_⟩, st⟩
  · obtain ⟨u, e1, h⟩ := R.slot i sl e
    refine ⟨u, e1, ?_⟩
    rcases h with ⟨k, q⟩ | ⟨k, b, ev, ob, cb, r⟩
    · exact .inl ⟨k, q.step st⟩
    · refine .inr ⟨k, b, ev, ob, cb.step st (fun u hu => ?_), r⟩
      rw [upd_ne fun z => c3 i sl e k (by rw [e1, ev, z])]; exact hu
  · by_cases z : b = t
    · rw [z]; exact ⟨_, upd_same⟩
    · rw [upd_ne z]; exact R.dom b hb
  · have nb : b ≠ t := fun z => by
      rw [z] at e
      have e' : F.H0 t = some u := e
      rw [h0] at e'; cases e'
    rw [upd_ne nb]; exact R.frm b u e n
  · rcases List.mem_cons.mp hp with z | z
    · subst z; exact ⟨upd_same, c2, c3⟩
    · have r := R.pin p (List.mem_cons_of_mem _ z)
      exact ⟨by rw [upd_ne (hpn p z)]; exact r.1, r.2⟩
/-- .. and it is let go of -/
theorem Rel.unPin {t : Addr} {o : HO} (R : Rel W (F.pin ((t, o) :: F.pn)) O env σ H) (hpn : ∀ p ∈ F.pn, p.1 ≠ t) (h0 : F.H0 t = none) :
    Rel W F (fun b => O b ∧ b ≠ t) env σ H ∧ Rel W F (fun b => (O b ∧ b ≠ t) ∨ b = t) env σ H ∧ (fun b => (O b ∧ b ≠ t) ∨ b = t) = O ∧ H t = some o := by
  obtain ⟨c1, c2, c3⟩ := R.pin _ List.mem_cons_self
  dsimp only at c1 c2 c3
  have Rb : Rel W F O env σ H := R.lessPin (F' := F) (hp := fun q hq => List.mem_cons_of_mem _ hq)
  have eO : (fun b => (O b ∧ b ≠ t) ∨ b = t) = O := by
    funext b
    refine propext ⟨fun h => h.elim (fun q => q.1) fun q => by rw [q]; exact c2, fun h => ?_⟩
    by_cases z : b = t
    · exact .inr z
    · exact .inl ⟨h, z⟩
  refine ⟨Rb.less (fun b h => h.1) (fun i sl a e k ea => ?_) (fun q hq => ⟨(Rb.pin q hq).2.1, hpn q hq⟩) fun a ha => ⟨Rb.sub a ha, fun z => ?_⟩, by rw [eO]; exact Rb, eO, c1⟩
  · obtain ⟨a', h1, h2, _⟩ := Rb.own e k
    rw [ea] at h1; cases h1
    exact ⟨h2, fun z => c3 i sl e k (z ▸ ea)⟩
  · obtain ⟨o, e⟩ := Rb.dom0 a ha
    rw [z, h0] at e; cases e
end
section
variable {X : Cx} {F : Fx} {k v : Expr} {fk fv : EF} {pos : Pos}
abbrev extO (p : Addr) (o : Obj) : HO := .ext fun h => h.get? p = some o
theorem extO_ok {P : Program} {w : World} {H : Hp} {h : Heap} {p : Addr} {o : Obj} (e : h.get? p = some o) : ObjOk P w H h p (extO p o) := ⟨e, ⟨o, e⟩, fun _ _ a k => k _ a⟩
theorem dn_d1 (hr : X.A.units + 64 < cLine) (h1 : ∀ pn, DE X (F.pin pn) k fk) (h2 : ∀ pn, DE X (F.pin pn) v fv) : DN X F .dt (.Dict [some k] [v] pos) (eD1 fk fv) := by
  refine ⟨fun pins s σ H Q I ⟨O, env, R, w⟩ => ?_⟩
  have hn : H s.heap.objs.size = none := I.fresh
  have big : (s.heap.objs.size == sysModules) = false := beq_eq_false_iff_ne.mpr (Ne.symm (Nat.ne_of_lt I.big))
  generalize ht : s.heap.objs.size = t at hn big
  have at0 : (s.heap.push { cls := .type "dict", data := .dict #[] }).get? t = some { cls := .type "dict", data := .dict #[] } := by rw [← ht]; exact Heap.get?_push_size _ rfl
  have I1 : Inv X pins σ (upd H t (extO t { cls := .type "dict", data := .dict #[] })) { s with heap := s.heap.push { cls := .type "dict", data := .dict #[] } } :=
    I.laid (t' := s.toks) (fun b u e => Heap.get?_push_of_some _ e) (Nat.le_of_eq ht) (extO_ok at0)
  have h0 : F.H0 t = none := R.fresh0 hn
  have hpn : ∀ q ∈ F.pn, q.1 ≠ t := fun q hq z => by
    have r := (R.pin q hq).1
    rw [z, hn] at r; cases r
  have nO : ¬ O t := new_out R hn
  have R1 : Rel (wd X) (F.pin ((t, extO t { cls := .type "dict", data := .dict #[] }) :: F.pn)) (fun b => O b ∨ b = t) env σ (upd H t (extO t { cls := .type "dict", data := .dict #[] })) :=
    (R.grow (SameH.upd hn) hn ⟨_, upd_same⟩).addPin (D := t) (o := extO t _) upd_same (.inr rfl) (noOwn R nO)
  have s0 : Stp O H (fun b => O b ∨ b = t) (upd H t (extO t { cls := .type "dict", data := .dict #[] })) := stp_grow (SameH.upd hn) hn
  refine wpAny_Dict_any (by rfl) (by rfl) (by simp) (by simp) ?_
  rw [ht]
  refine pairTrees_cons_walk (thn ((h1 _).run pins _ σ _ (fun x H2 => ∃ O2 e2 d2, Rel (wd X) (F.pin ((t, extO t { cls := .type "dict", data := .dict #[] }) :: F.pn)) O2 e2 σ H2 ∧ Stp O H O2 H2 ∧ Dq (wd X) H2 O2 x d2 ∧ Out.wp (Out.bind (fv e2) fun q => if keyT d2 = true then Out.ok (PyData.dict [(d2, q.1)], q.2) else Out.bad) _ F.R) I1
    ⟨_, env, R1, Out.wp_imp (Out.wp_bind w) (fun p _ w O2 x H2 R2 s2 q2 => ⟨O2, p.2, p.1, R2, s0.trans s2, q2, w⟩) fun _ z => z⟩) ?_)
  rintro kv sk ⟨x, H2, I2, rx, O2, e2, d2, R2, s2, q2, w2⟩
  refine thn ((h2 _).run pins _ σ _ (fun y H3 => ∃ O3 e3 d3, Rel (wd X) (F.pin ((t, extO t { cls := .type "dict", data := .dict #[] }) :: F.pn)) O3 e3 σ H3 ∧ Stp O H O3 H3 ∧ Dq (wd X) H3 O3 x d2 ∧ Dq (wd X) H3 O3 y d3 ∧ Out.wp (if keyT d2 = true then Out.ok (PyData.dict [(d2, d3)], e3) else Out.bad) _ F.R) I2
    ⟨_, e2, R2, Out.wp_imp (Out.wp_bind w2) (fun p _ w O3 y H3 R3 s3 q3 => ⟨O3, p.2, p.1, R3, s2.trans s3, q2.step s3, q3, w⟩) fun _ z => z⟩) ?_
  rintro vv sv ⟨y, H3, I3, ry, O3, e3, d3, R3, s3, q2, q3, w3⟩
  refine pairTrees_nil_walk ?_
  split at w3
  · rename_i hk
    obtain ⟨ks, rfl⟩ := keyT_k hk
    obtain ⟨b, rfl, kb⟩ := ky_v q2
    obtain ⟨c1, c2, c3⟩ := R3.pin _ List.mem_cons_self
    dsimp only at c1 c2 c3
    have ob := (I3.hok t _ c1).1
    cases rx
    have dh : sv.heap.DictOfH (tupleKind (mixKind X.prog X.w)) t [] := ⟨_, #[], 0, ob, ⟨rfl, rfl, rfl⟩, rfl, rfl, by simp, by simp⟩
    refine wpAny_storeAllH (knd := tupleKind (mixKind X.prog X.w)) (show X.A.units < cLine by omega) [(Value.ref b, vv)] [(ks, b, vv)] [] sv _ ⟨rfl, rfl, ky_is I3 kb, trivial⟩ dh (by rw [sizeLine_eq]; simp) fun h' tk dd sb => ?_
    obtain ⟨o, es, ep, ho, hx, hdt, he, _, hnd⟩ := dd
    have I4 : Inv X pins σ (upd H3 t (extO t o)) { sv with heap := h', toks := tk } := d_write I3 (by rw [c1]; exact True.intro) sb ⟨o, ho⟩ (extO_ok ho)
    obtain ⟨R4, s4⟩ := R3.rePin (o' := extO t o) hpn h0
    obtain ⟨R5, R6, eO, c4⟩ := R4.unPin hpn h0
    refine ⟨.ref t, _, I4, rfl, w3 _ t _ R5 R6 (by rw [eO]; exact s3.trans s4) (fun z => z.2 rfl) h0 ?_⟩
    rw [eO]
    have e1 : storedAllH [] [(ks, b, vv)] = [(ks, b, vv)] := rfl
    rw [e1] at he hnd
    exact ⟨[(ks, y)], _, rfl, ⟨by rw [sizeLine_eq]; simp, big, o, es, ep, _, c4, hx, hx.2.1, hdt, he, hnd, .cons ⟨rfl, kb.step s4, ry⟩ .nil⟩, rfl, .cons (q3.step s4) .nil⟩
  · exact w3.elim
end

/-! ### slices -/
abbrev PF := Env → Out (Option Int × Env)
def pNo : PF := fun env => .ok (none, env)
def pInt (f : EF) : PF := fun env => (f env).bind fun p => match p.1 with
  | .int i => .ok (some i, p.2)
  | _ => .bad
def opCut (d : D) (lo hi : Option Int) : Option D := match d with
  | .list xs => some (.list (cutD xs lo hi))
  | .tuple xs => some (.tuple (cutD xs lo hi))
  | _ => none
def eSl (f : BF) (lo hi : PF) : EF := fun env => (f env).bind fun p => (lo p.2).bind fun q => (hi q.2).bind fun r => (deref p.1 r.2).bind fun d => (opt (opCut d q.1 r.1)).bind fun z => .ok (z, r.2)
def rO (W : Wd) (F : Fx) (f : PF) : TO := fun σ H Q => ∃ O env, Rel W F O env σ H ∧ (f env).wp (fun p => ∀ O' H', Rel W F O' p.2 σ H' → Stp O H O' H' → Q p.1 H') F.R
abbrev DO (X : Cx) (F : Fx) (e : Option Expr) (f : PF) : Prop := PO X e (rO (wd X) F f)
theorem PO.imp {X : Cx} {e : Option Expr} {t t' : TO} (h : PO X e t) (i : ∀ σ H Q, t' σ H Q → t σ H Q) : PO X e t' := ⟨fun pins s σ H Q I q => h.run pins s σ H Q I (i σ H Q q)⟩
section
variable {X : Cx} {F : Fx} {e : Expr} {lo hi : Option Expr} {f : EF} {fb : BF} {fl fh : PF} {pos p2 : Pos}
theorem do_no : DO X F none pNo := PO.imp po_none fun σ H Q ⟨O, env, R, w⟩ => w O H R .refl
theorem do_some (h : DE X F e f) : DO X F (some e) (pInt f) := by
  refine PO.imp (po_some h) fun σ H Q ⟨O, env, R, w⟩ => ⟨O, env, R, ?_⟩
  refine Out.wp_imp (Out.wp_bind w) (fun p _ w O1 v H1 R1 s1 q1 => ?_) fun _ x => x
  split at w
  · rename_i i ei
    rw [ei] at q1
    exact ⟨i, q1.intI, w O1 H1 R1 s1⟩
  · exact w.elim
theorem sIx_eq (n d : Nat) (o : Option Int) : sIx n d o = HT.sIx n d o := by
  cases o <;> rfl
theorem cutD_q {W : Wd} {H : Hp} {O : Addr → Prop} {vs : List V} {ds : List D} (q : DqA W H O vs ds) (lo hi : Option Int) : DqA W H O (cutV vs lo hi) (cutD ds lo hi) := by
  unfold cutV cutD
  rw [sIx_eq, sIx_eq, q.len]
  exact (q.drop _).take _
theorem sl_D : SlR X (fun x lo hi H Q => ∃ O d r, Dom O H ∧ Bq (wd X) H O x d ∧ opCut d lo hi = some r ∧ ∀ v H', SameH H H' → Dq (wd X) H' O v r → Q v H') := by
  rintro pins s σ H x v vl vu lo hi sl Q I rx hs pl pu ⟨O, d, r, hO, b, er, q⟩
  unfold opCut at er
  split at er
  · cases er
    obtain ⟨a, xs, rfl, hx, qx, z⟩ := b.listI
    exact sl_list pins s σ H _ v vl vu lo hi sl Q I rx hs pl pu ⟨a, xs, rfl, hx, fun p hp => q _ _ (SameH.upd hp) (cell_val hO hp (cell_new hp (cutD_q qx lo hi) (Nat.le_trans (cutV_length xs lo hi) z)))⟩
  · cases er
    have bv := b.tupV
    obtain ⟨a, xs, rfl, hx, _, qx, z⟩ := b.tupI
    cases rx
    obtain ⟨its, r, ht, hz⟩ := I.tuple hx
    have hlen : its.toArray.size = xs.length := by rw [List.size_toArray]; exact r.length.symm
    refine ⟨"tuple", _, PyProof.Rows.slot_tuple_getitem.lookup, ht.typeIs, ?_⟩
    by_cases hw : HT.sIx xs.length 0 lo = 0 ∧ HT.sIx xs.length xs.length hi = xs.length
    · refine getItem_tuple_whole ht hs pl pu (by rw [hlen]; exact hw) ⟨.ref a, H, I, rfl, q _ H (fun _ _ e => e) ?_⟩
      have e : ∀ ds : List D, DqA (wd X) H O xs ds → cutD ds lo hi = ds := by
        intro ds qd
        unfold cutD
        rw [sIx_eq, sIx_eq, ← qd.len, hw.1, hw.2, List.drop_zero, Nat.sub_zero, qd.len, List.take_length]
      rw [e _ qx]
      exact bv
    · refine HT.getItem_tuple_cut ht hs pl pu (by rw [hlen]; exact hw) ?_ (by rw [hlen]; exact hz)
      rw [List.toList_toArray, hlen]
      exact tup_new (t' := s.toks) I ((r.drop (HT.sIx xs.length 0 lo)).take (HT.sIx xs.length xs.length hi - HT.sIx xs.length 0 lo)) (Nat.le_trans (cutV_length xs lo hi) hz) (cutD_q qx lo hi) hO q
  · cases er
theorem de_slice (he : DB X F e fb) (hl : DO X F lo fl) (hh : DO X F hi fh) : DE X F (.Subscript e (.Slice lo hi none p2) pos) (eSl fb fl fh) := by
  refine PE.imp (pe_slice sl_D he hl hh) fun σ H Q ⟨O, env, R, w⟩ => ⟨O, env, R, ?_⟩
  refine Out.wp_imp (Out.wp_bind w) (fun p _ w O1 v H1 R1 s1 b1 => ⟨O1, p.2, R1, ?_⟩) fun _ x => x
  refine Out.wp_imp (Out.wp_bind w) (fun q _ w O2 H2 R2 s2 => ⟨O2, q.2, R2, ?_⟩) fun _ x => x
  refine Out.wp_imp (Out.wp_bind w) (fun r _ w O3 H3 R3 s3 => ?_) fun _ x => x
  obtain ⟨d, e1, w⟩ := wp_deref w
  obtain ⟨z, e2, w⟩ := wp_opt w
  exact ⟨O3, d, z, R3.dom, deref_ok R3 (b1.step (s2.trans s3)) e1, e2, fun v H4 sm qv => w O3 v H4 (R3.same sm) (((s1.trans s2).trans s3).trans (.same sm)) qv⟩
/-- xs[i], d[k] -/
theorem de_ix {a b : Expr} {fa fc : BF} {od : D → D → Option D} (ho : IxR X (oD (wd X) od)) (h1 : DB X F a fa) (h2 : DB X F b fc) (hs : PlainIx b) : DE X F (.Subscript a b pos) (eOp od fa fc) :=
  PE.imp (pe_ix ho h1 h2 hs) fun _ _ _ z => cmp_in (fun _ _ _ _ z => z) z
/-- ints; a list of one's own, repeated -/
theorem op_mulD : OpR X (binaryOp .Mult) (oD (wd X) fun x y => match x, y with
    | .int a, .int b => opMul (.int a) (.int b)
    | _, _ => none) := by
  rintro pins s σ H x y v u Q I rx ry ⟨O, d, e, r, hO, bx, b2, er, q⟩
  dsimp only at er
  split at er
  · unfold opMul at er
    dsimp only at er
    split at er
    · rename_i c
      cases er
      have e1 := bx.intI
      have e2 := b2.intI
      subst e1 e2
      obtain ⟨t, rfl⟩ := rx
      obtain ⟨t', rfl⟩ := ry
      exact mul_int ⟨.int _, H, I.tok _, ⟨_, rfl⟩, q _ H (fun _ _ e => e) (.int _)⟩ (mulOk_wide c)
    · cases er
  · cases er
end
end WP
end
section
set_option Elab.async false
set_option linter.all false
set_option maxRecDepth 100000
set_option autoImplicit false
/-! W14: one's own lists and dicts are changed; methods. -/
namespace WP
open PySem PySem.Spec PyProof.Rows L2

def ownL (env : Env) (i : Nat) : Out (Kd × List D) := match env[i]? with
  | some (some ⟨.m, .list ls⟩) => .ok (.m, ls)
  | some (some ⟨.q, .list ls⟩) => .ok (.q, ls)
  | _ => .bad
def eAppend (i : Nat) (f : EF) : EF := fun env => (ownL env i).bind fun _ => (f env).bind fun p => (ownL p.2 i).bind fun kl => if kl.2.length < 16777216 then .ok (.none, p.2.set i (some ⟨kl.1, .list (kl.2 ++ [p.1])⟩)) else .bad
def ePopK (i : Nat) (f : EF) : EF := fun env => (ownL env i).bind fun _ => (f env).bind fun p => (ownL p.2 i).bind fun kl => match p.1 with
  | .int k => if small k = true then (opt (ixOf kl.2.length k)).bind fun j => (opt kl.2[j]?).bind fun d => .ok (d, p.2.set i (some ⟨kl.1, .list (kl.2.eraseIdx j)⟩)) else .bad
  | _ => .bad
def ePopL (i : Nat) : EF := fun env => (ownL env i).bind fun kl => (opt kl.2[kl.2.length - 1]?).bind fun d => .ok (d, env.set i (some ⟨kl.1, .list kl.2.dropLast⟩))
def gAt (i : Nat) (f : EF) : GF := fun d env => (ownL env i).bind fun _ => (f env).bind fun p => (ownL p.2 i).bind fun kl => match p.1 with
  | .int k => (opt (ixOf kl.2.length k)).bind fun j => .ok (p.2.set i (some ⟨kl.1, .list (kl.2.set j d)⟩))
  | _ => .bad
def ownT (env : Env) (i : Nat) : Out (List (D × D)) := match env[i]? with
  | some (some ⟨.dt, .dict kvs⟩) => .ok kvs
  | _ => .bad
def gKey (i : Nat) (f : EF) : GF := fun d env => (ownT env i).bind fun _ => (f env).bind fun p => (ownT p.2 i).bind fun kvs => if keyT p.1 = true ∧ kvs.length < 16777216 then .ok (p.2.set i (some ⟨.dt, .dict (dPut kvs p.1 d)⟩)) else .bad
section
variable {W : Wd} {F : Fx} {O O' : Addr → Prop} {env env' : Env} {σ σ' : L2.St} {H H' : Hp} {i : Nat} {kl : Kd × List D}
theorem ownL_exc {e : Exc} (h : ownL env i = .exc e) : False := by
  unfold ownL at h
  split at h <;> cases h
theorem ownL_ok (h : ownL env i = .ok kl) : env[i]? = some (some ⟨kl.1, .list kl.2⟩) ∧ (kl.1 = .m ∨ kl.1 = .q) := by
  unfold ownL at h
  split at h
  · rename_i ls e; cases h; exact ⟨e, .inl rfl⟩
  · rename_i ls e; cases h; exact ⟨e, .inr rfl⟩
  · cases h
theorem wp_own {α : Type} {f : Kd × List D → Out α} {P : α → Prop} {R : Exc → Prop} (h : ((ownL env i).bind f).wp P R) : ∃ kl, ownL env i = .ok kl ∧ (f kl).wp P R := by
  cases e : ownL env i with
  | ok d => rw [e] at h; exact ⟨d, rfl, h⟩
  | exc x => exact (ownL_exc e).elim
  | bad => rw [e] at h; exact h.elim
theorem wp_ownT {α : Type} {f : List (D × D) → Out α} {P : α → Prop} {R : Exc → Prop} (h : ((ownT env i).bind f).wp P R) : ∃ kvs, env[i]? = some (some ⟨.dt, .dict kvs⟩) ∧ (f kvs).wp P R := by
  unfold ownT at h
  split at h
  · rename_i kvs e; exact ⟨kvs, e, h⟩
  · exact h.elim
theorem mq_p {k : Kd} (h : k = .m ∨ k = .q) : k ≠ .p := by
  rcases h with h | h <;> rw [h] <;> exact fun z => Kd.noConfusion z
theorem Rel.lst (R : Rel W F O env σ H) (h : ownL env i = .ok kl) : ∃ a xs, σ[i]? = some (some (.ref a)) ∧ O a ∧ H a = some (.lst xs) ∧ DqA W H O xs kl.2 ∧ xs.length ≤ sizeLine := by
  obtain ⟨e, k⟩ := ownL_ok h
  obtain ⟨a, e1, oa, c, _⟩ := R.own e (mq_p k)
  dsimp only at c
  rcases k with k | k
  · rw [k] at c
    obtain ⟨xs, ds, e2, h2, q, z⟩ := c
    cases e2; exact ⟨a, xs, e1, oa, h2, q, z⟩
  · rw [k] at c
    obtain ⟨xs, ds, e2, h2, q, z⟩ := c
    cases e2; exact ⟨a, xs, e1, oa, h2, q, z⟩
/-- it is changed -/
theorem Rel.setLst (R : Rel W F O env σ H) (h : ownL env i = .ok kl) {a : Addr} {xs : List V} {ls : List D} (ea : σ[i]? = some (some (.ref a))) (oa : O a) (q : DqA W H O xs ls) (z : xs.length ≤ sizeLine) :
    Rel W F O (env.set i (some ⟨kl.1, .list ls⟩)) σ (upd H a (.lst xs)) ∧ Stp O H O (upd H a (.lst xs)) := by
  obtain ⟨e, k⟩ := ownL_ok h
  have st : Stp O H O (upd H a (.lst xs)) := ⟨fun b u h n => by rw [upd_ne (fun q => n (by rw [q]; exact oa))]; exact h, fun _ h => .inl h⟩
  refine ⟨R.putCell e (mq_p k) ea ?_, st⟩
  rcases k with k | k
  · rw [k]; exact ⟨xs, ls, rfl, upd_same, q.step st, z⟩
  · rw [k]; exact ⟨xs, ls, rfl, upd_same, q.step st, z⟩
end
section
variable {X : Cx} {F : Fx} {e : Expr} {f : EF} {i : Nat} {y : Str} {py pos apos cpos : Pos}
/-- a method of a name's own list -/
theorem de_append (hN : X.N[i]? = some y) (hv : Vis X.env.scope y) (h1 : DE X F e f) (hd : (y == ("__debug__" : Str)) = false := by decide) (hcd : (y == ("__classdict__" : Str)) = false := by decide)
    (hbase : attributeBase (.Name y py) "append" X.env (eval (.Name y py) X.env) = eval (.Name y py) X.env := by rfl)
    (hfew : ((backTo cpos (starEach [e] X.env)).all (fun x => !x.1) && (backToKw cpos (keywordEach [] X.env)).all (fun x => x.1.isSome) && decide ([e].length + ([] : List Keyword).length + (if ([] : List Keyword).isEmpty then 0 else 1) < 30)) = true := by rfl)
    (hline : (apos.endLine == cpos.line) = true := by rfl) (hs : starEach [e] X.env = (false, eval e X.env) :: starEach [] X.env := by rfl) (hpl : (backTo cpos (starEach [] X.env)).any (·.1) = false := by rfl) :
    DE X F (.Call (.Attribute (.Name y py) "append" apos) [e] [] cpos) (eAppend i f) := by
  refine PE.imp (pe_bm PySem.F.plainAttrs_list PySem.F.slot_list_append PySem.F.type_list_append mt_append (pe_var hN hv hd hcd) (pa_cons h1 pa_nil hs) hbase hfew hline hs hpl) fun σ H Q ⟨O, env, R, w⟩ => ?_
  obtain ⟨kl0, e0, w⟩ := wp_own w
  obtain ⟨a, xs0, ea, oa, h0, q0, z0⟩ := R.lst e0
  refine ⟨.ref a, ea, .inl ⟨rfl, xs0, SqL.of h0⟩, O, env, R, ?_⟩
  refine Out.wp_imp (Out.wp_bind w) (fun p _ w O1 v H1 R1 s1 q1 => ?_) fun _ x => x
  obtain ⟨kl, e1, w⟩ := wp_own w
  obtain ⟨a', xs, ea', oa', h1, q, z⟩ := R1.lst e1
  rw [ea] at ea'; cases ea'
  split at w
  · rename_i hz
    have hz' : xs.length < sizeLine := by rw [q.len]; exact hz
    obtain ⟨R2, s2⟩ := R1.setLst e1 ea oa' (q.snoc q1) (by rw [List.length_append, List.length_singleton]; omega)
    exact ⟨a, xs, v, rfl, rfl, h1, hz', w O1 _ _ R2 (s1.trans s2) .non⟩
  · exact w.elim
theorem seq_of_ix {n : Nat} {i : Int} {j : Nat} (h : ixOf n i = some j) : seqIndex? i n = some j := (ixN_seq ((ixOf_ix n i).symm.trans h)).1
theorem small_63 {k : Int} (h : small k = true) : -(2 ^ 63) ≤ k ∧ k < 2 ^ 63 := by
  unfold small at h
  rw [Bool.and_eq_true, decide_eq_true_eq, decide_eq_true_eq] at h
  omega
theorem de_popK (hN : X.N[i]? = some y) (hv : Vis X.env.scope y) (h1 : DE X F e f) (hd : (y == ("__debug__" : Str)) = false := by decide) (hcd : (y == ("__classdict__" : Str)) = false := by decide)
    (hbase : attributeBase (.Name y py) "pop" X.env (eval (.Name y py) X.env) = eval (.Name y py) X.env := by rfl)
    (hfew : ((backTo cpos (starEach [e] X.env)).all (fun x => !x.1) && (backToKw cpos (keywordEach [] X.env)).all (fun x => x.1.isSome) && decide ([e].length + ([] : List Keyword).length + (if ([] : List Keyword).isEmpty then 0 else 1) < 30)) = true := by rfl)
    (hline : (apos.endLine == cpos.line) = true := by rfl) (hs : starEach [e] X.env = (false, eval e X.env) :: starEach [] X.env := by rfl) (hpl : (backTo cpos (starEach [] X.env)).any (·.1) = false := by rfl) :
    DE X F (.Call (.Attribute (.Name y py) "pop" apos) [e] [] cpos) (ePopK i f) := by
  refine PE.imp (pe_bm PySem.F.plainAttrs_list PySem.F.slot_list_pop PySem.F.type_list_pop mt_popAt (pe_var hN hv hd hcd) (pa_cons h1 pa_nil hs) hbase hfew hline hs hpl) fun σ H Q ⟨O, env, R, w⟩ => ?_
  obtain ⟨kl0, e0, w⟩ := wp_own w
  obtain ⟨a, xs0, ea, oa, h0, q0, z0⟩ := R.lst e0
  refine ⟨.ref a, ea, .inl ⟨rfl, xs0, SqL.of h0⟩, O, env, R, ?_⟩
  refine Out.wp_imp (Out.wp_bind w) (fun p _ w O1 v H1 R1 s1 q1 => ?_) fun _ x => x
  obtain ⟨kl, e1, w⟩ := wp_own w
  obtain ⟨a', xs, ea', oa', h1, q, z⟩ := R1.lst e1
  rw [ea] at ea'; cases ea'
  split at w
  · rename_i k ek
    rw [ek] at q1
    have ev := q1.intI
    subst ev
    split at w
    · rename_i hk
      obtain ⟨j, ej, w⟩ := wp_opt w
      obtain ⟨d, ed, w⟩ := wp_opt w
      obtain ⟨y, ey, qy⟩ := q.get ed
      obtain ⟨R2, s2⟩ := R1.setLst e1 ea oa' (q.eraseIdx j) (by have := len_erase xs j; omega)
      rw [← q.len] at ej
      exact ⟨a, xs, k, j, y, rfl, rfl, h1, (small_63 hk).1, (small_63 hk).2, seq_of_ix ej, ey, w O1 _ _ R2 (s1.trans s2) (qy.step s2)⟩
    · exact w.elim
  · exact w.elim
theorem de_popL (hN : X.N[i]? = some y) (hv : Vis X.env.scope y) (hd : (y == ("__debug__" : Str)) = false := by decide) (hcd : (y == ("__classdict__" : Str)) = false := by decide)
    (hbase : attributeBase (.Name y py) "pop" X.env (eval (.Name y py) X.env) = eval (.Name y py) X.env := by rfl) (hline : (apos.endLine == cpos.line) = true := by rfl) :
    DE X F (.Call (.Attribute (.Name y py) "pop" apos) [] [] cpos) (ePopL i) := by
  refine PE.imp (pe_bm0 PySem.F.plainAttrs_list PySem.F.slot_list_pop PySem.F.type_list_pop mt_pop (pe_var hN hv hd hcd) hbase hline) fun σ H Q ⟨O, env, R, w⟩ => ?_
  obtain ⟨kl, e1, w⟩ := wp_own w
  obtain ⟨a, xs, ea, oa, h1, q, z⟩ := R.lst e1
  obtain ⟨d, ed, w⟩ := wp_opt w
  rw [← q.len] at ed
  obtain ⟨y, ey, qy⟩ := q.get ed
  obtain ⟨R2, s2⟩ := R.setLst e1 ea oa q.dropLast (by rw [List.length_dropLast]; omega)
  exact ⟨.ref a, ea, .inl ⟨rfl, xs, SqL.of h1⟩, a, xs, y, rfl, rfl, h1, ey, w O _ _ R2 s2 (qy.step s2)⟩
theorem dg_at {V' : RelI} (hV : ∀ W H O H' O' v d, V' W H O v d → Stp O H O' H' → Dq W H' O' v d) (hN : X.N[i]? = some y) (hv : Vis X.env.scope y) (h1 : DE X F e f) (hd : (y == ("__debug__" : Str)) = false := by decide) (hcd : (y == ("__classdict__" : Str)) = false := by decide)
    (ha : ∀ v, assign (.Subscript (.Name y py) e pos) X.env v = (do let ov ← holding [v] (eval (.Name y py) X.env); let iv ← holding [v, ov] (eval e X.env); standAt pos; holding [v, ov, iv] (setItem ov iv v); release [v, ov, iv] []) := by intro _; rfl) :
    DG X F V' [] (.Subscript (.Name y py) e pos) (gAt i f) := by
  refine PG.imp (pg_sub (pe_var hN hv hd hcd) h1 set_list ha) fun v σ H Q ⟨O, env, d, R, qv, w⟩ => ?_
  obtain ⟨kl0, e0, w⟩ := wp_own w
  obtain ⟨a, xs0, ea, oa, h0, q0, z0⟩ := R.lst e0
  refine ⟨.ref a, ea, O, env, R, ?_⟩
  refine Out.wp_imp (Out.wp_bind w) (fun p _ w O1 u H1 R1 s1 q1 => ?_) fun _ x => x
  obtain ⟨kl, e1, w⟩ := wp_own w
  obtain ⟨a', xs, ea', oa', h1, q, z⟩ := R1.lst e1
  rw [ea] at ea'; cases ea'
  split at w
  · rename_i k ek
    rw [ek] at q1
    have ev := q1.intI
    subst ev
    obtain ⟨j, ej, w⟩ := wp_opt w
    have qd := hV _ _ _ _ _ _ _ qv s1
    obtain ⟨R2, s2⟩ := R1.setLst e1 ea oa' (q.set qd j) (by rw [List.length_set]; exact z)
    rw [← q.len, ixOf_ix] at ej
    exact ⟨a, xs, k, j, rfl, rfl, h1, ej, w O1 σ _ R2 (s1.trans s2) .refl⟩
  · exact w.elim
theorem dq_stp : ∀ W H O H' O' v d, Dq W H O v d → Stp O H O' H' → Dq W H' O' v d := fun _ _ _ _ _ _ _ q s => q.step s
/-- d[k] = v by tuples -/
def rSetT (X : Cx) : TSet := fun o i v H Q => ∃ O a l ks t, o = .ref a ∧ i = .ref t ∧ O a ∧ DTr (wd X) H O a l ∧ KyT (wd X) H O t ks ∧ l.length < sizeLine ∧ ∀ ob, DTr (wd X) (upd H a (extO a ob)) O a (putK l ks v) → Q (upd H a (extO a ob))
theorem set_T (hr : X.A.units + 64 < cLine) : PSet X (rSetT X) := by
  intro pins s σ H o i v ov iv u Q I ro ri rv h
  obtain ⟨O, a, l, ks, t, rfl, rfl, oa, dt, kt, z, q⟩ := h
  cases ro
  cases ri
  have dt' := dt
  obtain ⟨z1, hd, xs, rw', dd⟩ := dt.of I
  have hz : xs.length ≤ sizeLine := by rw [← Paired.length rw']; exact z1
  refine wpAny_setItem_heap (hsz := hz) (tupleKind_room_in1 (by omega)) (ky_is I kt) dd fun h' dd' hs => ?_
  obtain ⟨ob, es, ep, ho, hx, hdt, he, _, hnd⟩ := dd'
  obtain ⟨_, _, o0, _, _, _, e0, _⟩ := dt'
  have st : Stp O H O (upd H a (extO a ob)) := ⟨fun b u h n => by rw [upd_ne (fun q => n (by rw [q]; exact oa))]; exact h, fun _ h => .inl h⟩
  have lk := length_putK l ks v
  refine ⟨_, d_write I (by rw [e0]; exact True.intro) hs ⟨ob, ho⟩ (extO_ok ho), q ob ⟨by omega, hd, ob, es, ep, _, upd_same, hx, hx.2.1, hdt, he, hnd, Paired.mapP (rows_put rw' ks kt rv) fun p r z => ⟨z.1, z.2.1.step st, z.2.2⟩⟩⟩
theorem dg_key {V' : RelI} (hV : ∀ W H O H' O' v d, V' W H O v d → Stp O H O' H' → Dq W H' O' v d) (hr : X.A.units + 64 < cLine) (hN : X.N[i]? = some y) (hv : Vis X.env.scope y) (h1 : DE X F e f) (hd : (y == ("__debug__" : Str)) = false := by decide) (hcd : (y == ("__classdict__" : Str)) = false := by decide)
    (ha : ∀ v, assign (.Subscript (.Name y py) e pos) X.env v = (do let ov ← holding [v] (eval (.Name y py) X.env); let iv ← holding [v, ov] (eval e X.env); standAt pos; holding [v, ov, iv] (setItem ov iv v); release [v, ov, iv] []) := by intro _; rfl) :
    DG X F V' [] (.Subscript (.Name y py) e pos) (gKey i f) := by
  refine PG.imp (pg_sub (pe_var hN hv hd hcd) h1 (set_T hr) ha) fun v σ H Q ⟨O, env, d, R, qv, w⟩ => ?_
  obtain ⟨kvs0, e0, w⟩ := wp_ownT w
  obtain ⟨a, ea, oa, c0, _⟩ := R.own e0 (fun z => Kd.noConfusion z)
  refine ⟨.ref a, ea, O, env, R, ?_⟩
  refine Out.wp_imp (Out.wp_bind w) (fun p _ w O1 u H1 R1 s1 q1 => ?_) fun _ x => x
  obtain ⟨kvs, e1, w⟩ := wp_ownT w
  obtain ⟨a', ea', oa', c1, _⟩ := R1.own e1 (fun z => Kd.noConfusion z)
  rw [ea] at ea'; cases ea'
  split at w
  · rename_i hc
    obtain ⟨ks, ek⟩ := keyT_k hc.1
    rw [ek] at q1
    obtain ⟨t, rfl, kt⟩ := ky_v q1
    obtain ⟨l, kvs', e2, dt, e3, q3⟩ := c1
    cases e2
    have lz : l.length < sizeLine := by
      have z := congrArg List.length e3
      rw [List.length_map, List.length_map] at z
      rw [← z]; exact hc.2
    have qd := hV _ _ _ _ _ _ _ qv s1
    refine ⟨O1, a, l, ks, t, rfl, rfl, oa', dt, kt, lz, fun ob dt' => ?_⟩
    obtain ⟨p1, p2⟩ := dput_row ks qd e3 q3
    have st := stp_cell (o := extO a ob) R1 e1 (fun z => Kd.noConfusion z) ea
    have R2 := R1.putCell (o := extO a ob) (d' := .dict (dPut kvs (.tuple (ks.map keyD)) d)) e1 (fun z => Kd.noConfusion z) ea ⟨_, _, rfl, dt', p1, p2.step st⟩
    rw [ek] at w
    exact w O1 σ _ R2 (s1.trans st) .refl
  · exact w.elim
/-! ### count -/
def eSeqM (op : D → List D → Option D) (f : EF) (g : AF) : EF := fun env => (f env).bind fun p => (opt (listOf p.1)).bind fun _ => (g p.2).bind fun q => (derefs q.1 q.2).bind fun ds => (opt (op p.1 ds)).bind fun r => .ok (r, q.2)
/-- what a method of lists and of tuples says -/
theorem mt_countL (hr : X.A.units + 64 < cLine) : MtR X "list.count" (mD (wd X) fun c ds => match c with
    | .list _ => mCount c ds
    | _ => none) := by
  rintro pins s σ H x xs v us Q I rx rs ⟨O, d, ds, r, hO, b, bs, er, q⟩
  dsimp only at er
  split at er
  · rename_i ls
    unfold mCount listOf at er
    rw [Option.bind_some] at er
    split at er
    · rename_i z
      split at er
      · rename_i c
        cases er
        obtain ⟨x1, rfl, b1⟩ := bs.one
        obtain ⟨u, rfl, ru⟩ := rs.one
        obtain ⟨as, r1⟩ := bq_reads I b1 ru (okD_plain c.1)
        obtain ⟨a, xs, rfl, hx, qx, _⟩ := b.listI
        cases rx
        obtain ⟨its, rv, pl, _⟩ := I.list hx
        obtain ⟨bs', r2⟩ := dqA_reads I qx rv (okAll_plain c.2)
        exact PySem.SeqAt.count_list_data (vs := its.toArray) pl.isList (by rw [List.toList_toArray]; exact r2) r1 (okAll_plain c.2) (okD_plain c.1) (by have := okAll_depth c.2; omega) ⟨.int _, H, I.tok _, ⟨_, rfl⟩, q _ H (fun _ _ e => e) (.int _)⟩
      · cases er
    · cases er
  · cases er
theorem mt_countT (hr : X.A.units + 64 < cLine) : MtR X "tuple.count" (mD (wd X) fun c ds => match c with
    | .tuple _ => mCount c ds
    | _ => none) := by
  rintro pins s σ H x xs v us Q I rx rs ⟨O, d, ds, r, hO, b, bs, er, q⟩
  dsimp only at er
  split at er
  · rename_i ls
    unfold mCount listOf at er
    rw [Option.bind_some] at er
    split at er
    · rename_i z
      split at er
      · rename_i c
        cases er
        obtain ⟨x1, rfl, b1⟩ := bs.one
        obtain ⟨u, rfl, ru⟩ := rs.one
        obtain ⟨as, r1⟩ := bq_reads I b1 ru (okD_plain c.1)
        obtain ⟨a, xs, rfl, hx, _, qx, _⟩ := b.tupI
        cases rx
        obtain ⟨its, rv, pl, _⟩ := I.tuple hx
        obtain ⟨bs', r2⟩ := dqA_reads I qx rv (okAll_plain c.2)
        exact PySem.SeqAt.count_tuple_data (vs := its.toArray) (show s.heap.IsTuple a its.toArray from pl) (by rw [List.toList_toArray]; exact r2) r1 (okAll_plain c.2) (okD_plain c.1) (by have := okAll_depth c.2; omega) ⟨.int _, H, I.tok _, ⟨_, rfl⟩, q _ H (fun _ _ e => e) (.int _)⟩
      · cases er
    · cases er
  · cases er
/-- a list's, a tuple's type; no dict of its own -/
theorem list_is {pins : List (Addr × Obj)} {s : Shared} {σ : L2.St} {H : Hp} {a : Addr} {xs : List V} (I : Inv X pins σ H s) (h : SqL X.K H a xs) : s.TypeIs (.ref a) "list" ∧ ∀ b, Value.ref a = .ref b → ∃ o, s.heap.get? b = some o ∧ o.dict = none := by
  obtain ⟨its, _, pl, _⟩ := I.list h
  refine ⟨pl.isList.typeIs, fun b e => ?_⟩
  cases e
  obtain ⟨o, _, e1, _, e3, _⟩ := pl
  exact ⟨o, e1, e3⟩
theorem tup_is {pins : List (Addr × Obj)} {s : Shared} {σ : L2.St} {H : Hp} {a : Addr} {xs : List V} (I : Inv X pins σ H s) (h : TupT H a xs ∨ TupK X.K a xs) : s.TypeIs (.ref a) "tuple" ∧ ∀ b, Value.ref a = .ref b → ∃ o, s.heap.get? b = some o ∧ o.dict = none := by
  have hs : SqT X.K H a xs := h.elim sqT_of sqT_ofK
  obtain ⟨its, _, pl, _⟩ := I.tuple hs
  refine ⟨pl.typeIs, fun b e => ?_⟩
  cases e
  rcases h with ⟨o, e1, e2⟩ | ⟨o, _, _, e1, _, e2, _⟩
  · exact ⟨o, (I.hok a _ e1).1, e2⟩
  · exact ⟨o, I.kIn a o e1, e2⟩
theorem de_count {o : Expr} {fo : EF} {fa : AF} (hr : X.A.units + 64 < cLine) (ho : DE X F o fo) (ha : DA X F [e] fa)
    (hbase : attributeBase o "count" X.env (eval o X.env) = eval o X.env := by rfl)
    (hfew : ((backTo cpos (starEach [e] X.env)).all (fun x => !x.1) && (backToKw cpos (keywordEach [] X.env)).all (fun x => x.1.isSome) && decide ([e].length + ([] : List Keyword).length + (if ([] : List Keyword).isEmpty then 0 else 1) < 30)) = true := by rfl)
    (hline : (apos.endLine == cpos.line) = true := by rfl) (hs : starEach [e] X.env = (false, eval e X.env) :: starEach [] X.env := by rfl) (hpl : (backTo cpos (starEach [] X.env)).any (·.1) = false := by rfl) :
    DE X F (.Call (.Attribute o "count" apos) [e] [] cpos) (eSeqM mCount fo fa) := by
  refine ⟨fun pins s σ H Q I ⟨O, env, R, w⟩ => ?_⟩
  refine wpAny_Call_method_late hbase hfew hline rfl (thn (ho.run pins s σ H (fun v H1 => ∃ O1 e1 d, Rel (wd X) F O1 e1 σ H1 ∧ Stp O H O1 H1 ∧ Dq (wd X) H1 O1 v d ∧ (∃ ls, listOf d = some ls) ∧
    ((fa e1).bind fun q => (derefs q.1 q.2).bind fun ds => (opt (mCount d ds)).bind fun r => Out.ok (r, q.2)).wp (fun p => ∀ O' v H', Rel (wd X) F O' p.2 σ H' → Stp O H O' H' → Dq (wd X) H' O' v p.1 → Q v H') F.R) I
    ⟨O, env, R, Out.wp_imp (Out.wp_bind w) (fun p _ w O1 v H1 R1 s1 q1 => let ⟨ls, e, w⟩ := wp_opt w; ⟨O1, p.2, p.1, R1, s1, q1, ⟨ls, e⟩, w⟩) fun _ z => z⟩) ?_)
  rintro v s1 ⟨x, H1, I1, r1, O1, e1, d, R1, st1, q1, ⟨ls0, el⟩, w⟩
  have key : ∀ (T id : String) (nx : D → List D → Option D), PlainAttrs T → Slot T "count" id → typeOf (.builtin id) = pure (.type "method_descriptor") → s1.TypeIs v T → (∀ b, v = .ref b → ∃ o, s1.heap.get? b = some o ∧ o.dict = none) →
      MtR X id (mD (wd X) nx) → (∀ ds, nx d ds = mCount d ds) → MethodOn X.prog X.w X.A "count" cpos v (backTo cpos (starEach [e] X.env)) (EP X pins σ Q) X.xe s1 := by
    intro T id nx pa sl ty h1 h2 hm hn
    refine ⟨T, id, pa, sl, ty, h1, h2, ?_⟩
    have hA := ha.run cpos pins s1 σ H1 (fun vs H2 => mD (wd X) nx x vs H2 Q) I1 ⟨O1, e1, R1, Out.wp_imp (Out.wp_bind w) (fun q _ w O2 vs H2 R2 s2 b2 => ?_) fun _ z => z⟩
    · rw [hs] at hA ⊢
      refine Calls.callWith_builtin (by show (false || (backTo cpos (starEach [] X.env)).any (·.1)) = false; rw [hpl] <;> rfl) (Calls.evalArgs_plain ?_)
      exact thn hA fun us s2 ⟨vs, H2, I2, r2, q2⟩ => hm pins s2 σ H2 x vs v us Q I2 r1 r2 q2
    · obtain ⟨ds, e2, w⟩ := wp_derefs w
      obtain ⟨r, e3, w⟩ := wp_opt w
      exact ⟨O2, d, ds, r, R2.dom, .val (q1.step s2), derefs_ok R2 b2 e2, (hn ds).trans e3, fun v H3 sm qv => w O2 v H3 (R2.same sm) ((st1.trans s2).trans (.same sm)) qv⟩
  cases d with
  | list ls =>
    obtain ⟨a, xs, rfl, hx, _⟩ := q1.listI
    cases r1
    obtain ⟨t1, t2⟩ := list_is I1 hx
    exact key "list" _ _ PySem.F.plainAttrs_list PySem.F.slot_list_count PySem.F.type_list_count t1 t2 (mt_countL hr) fun _ => rfl
  | tuple ls =>
    obtain ⟨a, xs, rfl, _, hx, _⟩ := q1.tupI
    cases r1
    obtain ⟨t1, t2⟩ := tup_is I1 hx
    exact key "tuple" _ _ PySem.F.plainAttrs_tuple PySem.F.slot_tuple_count PySem.F.type_tuple_count t1 t2 (mt_countT hr) fun _ => rfl
  | none => cases el
  | bool _ => cases el
  | int _ => cases el
  | str _ => cases el
  | dict _ => cases el
end
end WP
end
section
set_option Elab.async false
set_option linter.all false
set_option maxRecDepth 100000
set_option autoImplicit false
/-! W15: built-ins called, by data. -/
namespace WP
open PySem PySem.Spec PyProof.Rows L2
open PySem.W (alike dataLt minD maxD)
section
variable {X : Cx}
theorem ints_v {W : Wd} {H : Hp} {O : Addr → Prop} : ∀ {vs : List V} {ds : List D} {ns : List Int}, DqA W H O vs ds → intsOf ds = some ns → vs = ns.map .int
  | _, [], _, .nil, e => by cases e; rfl
  | _, d :: ds, ns, .cons a b, e => by
    unfold intsOf at e
    cases d with
    | int i =>
      cases h : intsOf ds with
      | none => rw [h] at e; simp [intOf] at e
      | some is =>
        rw [h] at e
        simp only [intOf] at e
        cases e
        rw [a.intI, ints_v b h]; rfl
    | none => simp [intOf] at e
    | bool _ => simp [intOf] at e
    | str _ => simp [intOf] at e
    | list _ => simp [intOf] at e
    | tuple _ => simp [intOf] at e
    | dict _ => simp [intOf] at e
theorem bools_v {W : Wd} {H : Hp} {O : Addr → Prop} : ∀ {vs : List V} {ds : List D} {ns : List Bool}, DqA W H O vs ds → boolsOf ds = some ns → vs = ns.map .bl
  | _, [], _, .nil, e => by cases e; rfl
  | _, d :: ds, ns, .cons a b, e => by
    unfold boolsOf at e
    cases d with
    | bool i =>
      cases h : boolsOf ds with
      | none => rw [h] at e; simp [boolOf] at e
      | some is =>
        rw [h] at e
        simp only [boolOf] at e
        cases e
        rw [a.boolI, bools_v b h]; rfl
    | none => simp [boolOf] at e
    | int _ => simp [boolOf] at e
    | str _ => simp [boolOf] at e
    | list _ => simp [boolOf] at e
    | tuple _ => simp [boolOf] at e
    | dict _ => simp [boolOf] at e
theorem ints_q {W : Wd} {H : Hp} {O : Addr → Prop} : ∀ ns : List Int, DqA W H O (ns.map .int) (ns.map .int)
  | [] => .nil
  | n :: ns => .cons (.int n) (ints_q ns)
/-- a list or a tuple among data -/
theorem Bq.seq {W : Wd} {H : Hp} {O : Addr → Prop} {v : V} {d : D} {ds : List D} (b : Bq W H O v d) (e : listOf d = some ds) : ∃ a xs, v = .ref a ∧ (SqL W.K H a xs ∨ SqT W.K H a xs) ∧ DqA W H O xs ds ∧ xs.length ≤ sizeLine := by
  cases d with
  | list ls => cases e; exact b.items rfl
  | tuple ls => cases e; exact b.items rfl
  | none => cases e
  | bool _ => cases e
  | int _ => cases e
  | str _ => cases e
  | dict _ => cases e
theorem ck_len : CallR X (.builtin "len") (cD (wd X) (one bLen)) := by
  rintro pins s σ H xs us Q I rs ⟨O, ds, r, hO, b0, er0, q⟩
  obtain ⟨d, rfl, er⟩ := one_some er0
  obtain ⟨v, rfl, b⟩ := b0.one
  have e : ∃ ls, listOf d = some ls ∧ r = .int (ls.length : Nat) := by
    unfold bLen at er
    split at er
    · cases er; exact ⟨_, rfl, rfl⟩
    · cases er; exact ⟨_, rfl, rfl⟩
    · cases er
  obtain ⟨ls, e, rfl⟩ := e
  obtain ⟨a, ys, rfl, hs, qx, _⟩ := b.seq e
  exact call_len_seq pins s σ H _ us Q I rs ⟨a, ys, rfl, hs, by rw [qx.len]; exact q _ H (fun _ _ e => e) (.int _)⟩
theorem ck_abs : CallR X (.builtin "abs") (cD (wd X) (one bAbs)) := by
  rintro pins s σ H xs us Q I rs ⟨O, ds, r, hO, b0, er0, q⟩
  obtain ⟨d, rfl, er⟩ := one_some er0
  obtain ⟨v, rfl, b⟩ := b0.one
  unfold bAbs at er
  split at er
  · cases er
    exact call_abs pins s σ H _ us Q I rs ⟨_, by rw [b.intI], q _ H (fun _ _ e => e) (.int _)⟩
  · cases er
theorem ck_int : CallR X (.type "int") (cD (wd X) (one bInt)) := by
  rintro pins s σ H xs us Q I rs ⟨O, ds, r, hO, b0, er0, q⟩
  obtain ⟨d, rfl, er⟩ := one_some er0
  obtain ⟨v, rfl, b⟩ := b0.one
  unfold bInt at er
  split at er
  · cases er
    exact call_int1 pins s σ H _ us Q I rs (.inl ⟨_, by rw [b.intI], q _ H (fun _ _ e => e) (.int _)⟩)
  · cases er
theorem ck_max2 (hc : X.calm = true) : CallR X (.builtin "max") (cD (wd X) (two bMax2)) := by
  rintro pins s σ H xs us Q I rs ⟨O, ds, r, hO, b, er0, q⟩
  obtain ⟨d, e, rfl, er⟩ := two_some er0
  obtain ⟨v, u, rfl, b1, b2⟩ := b.two
  unfold bMax2 at er
  split at er
  · cases er
    exact call_max2 hc pins s σ H _ us Q I rs ⟨_, _, by rw [b1.intI, b2.intI], q _ H (fun _ _ e => e) (.int _)⟩
  · cases er
theorem ck_min2 (hc : X.calm = true) : CallR X (.builtin "min") (cD (wd X) (two bMin2)) := by
  rintro pins s σ H xs us Q I rs ⟨O, ds, r, hO, b, er0, q⟩
  obtain ⟨d, e, rfl, er⟩ := two_some er0
  obtain ⟨v, u, rfl, b1, b2⟩ := b.two
  unfold bMin2 at er
  split at er
  · cases er
    exact call_min2 hc pins s σ H _ us Q I rs ⟨_, _, by rw [b1.intI, b2.intI], q _ H (fun _ _ e => e) (.int _)⟩
  · cases er
theorem ck_divmod : CallR X (.builtin "divmod") (cD (wd X) (two bDivmod)) := by
  rintro pins s σ H xs us Q I rs ⟨O, ds, r, hO, b, er0, q⟩
  obtain ⟨d, e, rfl, er⟩ := two_some er0
  obtain ⟨v, u, rfl, b1, b2⟩ := b.two
  unfold bDivmod at er
  split at er
  · rename_i i j
    split at er
    · rename_i c
      cases er
      have e1 := b1.intI
      have e2 := b2.intI
      subst e1 e2
      obtain ⟨u, w', rfl, ⟨t, rfl⟩, ⟨t', rfl⟩⟩ := vals2 rs
      refine divmod_int (by omega) ?_ (.inl (PyProof.noPylong_small (by omega)))
      rw [Int.fdiv_eq_ediv_of_nonneg i (by omega), Int.fmod_eq_emod_of_nonneg i (by omega)]
      exact tup_new (us := [.int (i / j) s.toks, .int (i % j) (s.toks + 1)]) (vs := [.int (i / j), .int (i % j)]) I (.cons ⟨_, rfl⟩ (.cons ⟨_, rfl⟩ .nil)) (by rw [sizeLine_eq]; simp) (.cons (.int _) (.cons (.int _) .nil)) hO q
    · cases er
  · cases er
theorem bList_of {d r : D} (h : bList d = some r) : ∃ ls, listOf d = some ls ∧ r = .list ls := by
  unfold bList at h
  split at h
  · cases h; exact ⟨_, rfl, rfl⟩
  · cases h; exact ⟨_, rfl, rfl⟩
  · cases h
theorem ck_listN : CallR X (.type "list") (cN (wd X) (one bList)) := by
  rintro pins s σ H xs us Q I rs ⟨O, ds, r, hO, b0, er0, q⟩
  obtain ⟨d, rfl, er⟩ := one_some er0
  obtain ⟨v, rfl, b⟩ := b0.one
  obtain ⟨ls, e, rfl⟩ := bList_of er
  obtain ⟨a, ys, rfl, hs, qx, z⟩ := b.seq e
  exact call_list_of pins s σ H _ us Q I rs ⟨a, ys, rfl, hs, fun p hp => q p _ hp (SameH.upd hp) (cell_new hp qx z)⟩
theorem ck_list : CallR X (.type "list") (cD (wd X) (one bList)) := by
  rintro pins s σ H xs us Q I rs ⟨O, ds, r, hO, b0, er0, q⟩
  obtain ⟨d, rfl, er⟩ := one_some er0
  obtain ⟨v, rfl, b⟩ := b0.one
  obtain ⟨ls, e, rfl⟩ := bList_of er
  obtain ⟨a, ys, rfl, hs, qx, z⟩ := b.seq e
  exact call_list_of pins s σ H _ us Q I rs ⟨a, ys, rfl, hs, fun p hp => q _ _ (SameH.upd hp) (cell_val hO hp (cell_new hp qx z))⟩
theorem ck_tuple : CallR X (.type "tuple") (cD (wd X) (one bTuple)) := by
  rintro pins s σ H xs us Q I rs ⟨O, ds, r, hO, b0, er0, q⟩
  obtain ⟨d, rfl, er⟩ := one_some er0
  obtain ⟨v, rfl, b⟩ := b0.one
  unfold bTuple at er
  split at er
  · cases er
    obtain ⟨a, ys, rfl, hs, qx, z⟩ := b.listI
    obtain ⟨u, rfl, ru⟩ := vals1 rs
    cases ru
    obtain ⟨its, r', pl, hz⟩ := I.list hs
    refine call_tuple_list pl.isList (fun h' kp => ?_) (by rw [List.size_toArray, ← r'.length]; exact hz)
    have I1 : Inv X pins σ H { s with heap := h' } := I.kept (t' := s.toks) kp
    exact tup_new (s := { s with heap := h' }) (t' := s.toks) I1 r' z qx hO q
  · cases er
    obtain ⟨a, ys, rfl, hs, _, qx, z⟩ := b.tupI
    exact call_tuple_of pins s σ H _ us Q I rs ⟨a, ys, rfl, .inr ⟨hs, q _ H (fun _ _ e => e) b.tupV⟩⟩
  · cases er
theorem ck_sum (hc : X.calm = true) : CallR X (.builtin "sum") (cD (wd X) (one bSum)) := by
  rintro pins s σ H xs us Q I rs ⟨O, ds, r, hO, b0, er0, q⟩
  obtain ⟨d, rfl, er⟩ := one_some er0
  obtain ⟨v, rfl, b⟩ := b0.one
  unfold bSum at er
  obtain ⟨ls, e1, er⟩ := Option.bind_eq_some_iff.mp er
  obtain ⟨ns, e2, er⟩ := Option.bind_eq_some_iff.mp er
  cases er
  obtain ⟨a, ys, rfl, hs, qx, z⟩ := b.seq e1
  have ey := ints_v qx e2
  subst ey
  rcases hs with hs | hs
  · exact cr_sum hc pins s σ H _ us Q I rs ⟨a, ns, rfl, hs, q _ H (fun _ _ e => e) (.int _)⟩
  · obtain ⟨its, rv, hl, _⟩ := I.tuple hs
    rw [Vals.ref1 rs]
    have hi := rv.ints
    obtain ⟨xs, e⟩ := hi.allInts.items
    have hn : numsOf (intItems xs).toList = ns := by rw [← e]; exact hi.numsOf
    rw [nums_intItems] at hn
    rw [e] at hl
    refine PySem.W.ktm_sumG (I.ok.hd hc) (show s.heap.IsTuple a (intItems xs) from hl) fun h' tk t' hk => ?_
    rw [preSum_eq, List.take_of_length_le (by simp), hn]
    exact ⟨.int _, H, I.kept hk, ⟨_, rfl⟩, q _ H (fun _ _ e => e) (.int _)⟩
theorem ck_all (hc : X.calm = true) : CallR X (.builtin "all") (cD (wd X) (one bAll)) := by
  rintro pins s σ H xs us Q I rs ⟨O, ds, r, hO, b0, er0, q⟩
  obtain ⟨d, rfl, er⟩ := one_some er0
  obtain ⟨v, rfl, b⟩ := b0.one
  unfold bAll at er
  split at er
  · obtain ⟨bs, e2, er⟩ := Option.bind_eq_some_iff.mp er
    cases er
    obtain ⟨a, ys, rfl, hs, qx, z⟩ := b.listI
    have ey := bools_v qx e2
    subst ey
    exact cr_all hc pins s σ H _ us Q I rs ⟨a, bs, rfl, hs, q _ H (fun _ _ e => e) (.bl _)⟩
  · cases er
theorem ck_any (hc : X.calm = true) : CallR X (.builtin "any") (cD (wd X) (one bAny)) := by
  rintro pins s σ H xs us Q I rs ⟨O, ds, r, hO, b0, er0, q⟩
  obtain ⟨d, rfl, er⟩ := one_some er0
  obtain ⟨v, rfl, b⟩ := b0.one
  unfold bAny at er
  split at er
  · obtain ⟨bs, e2, er⟩ := Option.bind_eq_some_iff.mp er
    cases er
    obtain ⟨a, ys, rfl, hs, qx, z⟩ := b.listI
    have ey := bools_v qx e2
    subst ey
    exact cr_any hc pins s σ H _ us Q I rs ⟨a, bs, rfl, hs, q _ H (fun _ _ e => e) (.bl _)⟩
  · cases er
theorem alikeB_all {x : D} {xs : List D} (h : alikeB (x :: xs) = true) : (x :: xs).all okD = true ∧ PySem.W.AlikeAll (x :: xs) := by
  unfold alikeB at h
  simp only [Bool.and_eq_true] at h
  refine ⟨h.1.1, fun y hy z hz => ?_, fun y hy e => ?_⟩
  · exact List.all_eq_true.mp (List.all_eq_true.mp h.1.2 y hy) z hz
  · have := List.all_eq_true.mp h.2 y hy
    rw [e] at this
    exact absurd this (by decide)
/-- one of the items, found by its datum -/
theorem item_q {pins : List (Addr × Obj)} {s : Shared} {σ : L2.St} {H : Hp} {O : Addr → Prop} (I : Inv X pins σ H s) {ys : List V} {its : List Value} {ls : List D} (qx : DqA (wd X) H O ys ls) (rv : Vals ys its) (hp : ls.all okD = true) {i : Nat} {v : Value} {h' : Heap} {d : D} {bs : List Addr}
    (hv : its.toArray[i]? = some v) (hr : Reads h' v d bs) (k : ∀ b o, s.heap.get? b = some o → h'.get? b = some o) : ∃ x, RelV x v ∧ Dq (wd X) H O x d := by
  have hv : its[i]? = some v := by simpa using hv
  have hi : i < ys.length := by rw [rv.length]; exact (List.getElem?_eq_some_iff.mp hv).1
  obtain ⟨u, hu, ru⟩ := rv.get (List.getElem?_eq_getElem hi)
  rw [hv] at hu; cases hu
  obtain ⟨d', ed, qd⟩ := qx.getV (List.getElem?_eq_getElem hi)
  have okd : okD d' = true := List.all_eq_true.mp hp d' (List.mem_of_getElem? ed)
  obtain ⟨as, r1⟩ := bq_reads I (.val qd) ru (okD_plain okd)
  have e := SeqAt.plain_unique d' d v as bs (okD_plain okd) (Reads.keeps k r1) hr
  subst e
  exact ⟨_, ru, qd⟩
theorem ck_max (hc : X.calm = true) (hr : X.A.units + 64 < cLine) : CallR X (.builtin "max") (cD (wd X) (one bMax)) := by
  rintro pins s σ H xs us Q I rs ⟨O, ds, r, hO, b0, er0, q⟩
  obtain ⟨d, rfl, er⟩ := one_some er0
  obtain ⟨v, rfl, b⟩ := b0.one
  unfold bMax at er
  obtain ⟨ls, e1, er⟩ := Option.bind_eq_some_iff.mp er
  split at er
  · split at er
    · rename_i x xs c
      cases er
      obtain ⟨okl, al⟩ := alikeB_all c
      obtain ⟨a, ys, rfl, hs, qx, z⟩ := b.seq e1
      have hd : X.A.units + 1 + PyData.depthAll (x :: xs) < cLine := by have := okAll_depth okl; omega
      rw [Vals.ref1 rs]
      rcases hs with hs | hs
      · obtain ⟨its, rv, hl, _⟩ := I.list hs
        obtain ⟨as, ra⟩ := dqA_reads I qx rv (okAll_plain okl)
        refine PySem.W.max_list_data (vs := its.toArray) (I.ok.hd hc) hl.isList (by rw [List.toList_toArray]; exact ra) al hd fun i v h' tk bs hv hr k => ?_
        obtain ⟨w, rw', qw⟩ := item_q I qx rv okl hv hr k
        exact ⟨w, H, I.kept k, rw', q w H (fun _ _ e => e) qw⟩
      · obtain ⟨its, rv, hl, _⟩ := I.tuple hs
        obtain ⟨as, ra⟩ := dqA_reads I qx rv (okAll_plain okl)
        refine PySem.W.max_tuple_data (vs := its.toArray) (I.ok.hd hc) (show s.heap.IsTuple a its.toArray from hl) (by rw [List.toList_toArray]; exact ra) al hd fun i v h' tk bs hv hr k => ?_
        obtain ⟨w, rw', qw⟩ := item_q I qx rv okl hv hr k
        exact ⟨w, H, I.kept k, rw', q w H (fun _ _ e => e) qw⟩
    · cases er
  · cases er
theorem ck_min (hc : X.calm = true) (hr : X.A.units + 64 < cLine) : CallR X (.builtin "min") (cD (wd X) (one bMin)) := by
  rintro pins s σ H xs us Q I rs ⟨O, ds, r, hO, b0, er0, q⟩
  obtain ⟨d, rfl, er⟩ := one_some er0
  obtain ⟨v, rfl, b⟩ := b0.one
  unfold bMin at er
  obtain ⟨ls, e1, er⟩ := Option.bind_eq_some_iff.mp er
  split at er
  · split at er
    · rename_i x xs c
      cases er
      obtain ⟨okl, al⟩ := alikeB_all c
      obtain ⟨a, ys, rfl, hs, qx, z⟩ := b.seq e1
      have hd : X.A.units + 1 + PyData.depthAll (x :: xs) < cLine := by have := okAll_depth okl; omega
      rw [Vals.ref1 rs]
      rcases hs with hs | hs
      · obtain ⟨its, rv, hl, _⟩ := I.list hs
        obtain ⟨as, ra⟩ := dqA_reads I qx rv (okAll_plain okl)
        refine PySem.W.min_list_data (vs := its.toArray) (I.ok.hd hc) hl.isList (by rw [List.toList_toArray]; exact ra) al hd fun i v h' tk bs hv hr k => ?_
        obtain ⟨w, rw', qw⟩ := item_q I qx rv okl hv hr k
        exact ⟨w, H, I.kept k, rw', q w H (fun _ _ e => e) qw⟩
      · obtain ⟨its, rv, hl, _⟩ := I.tuple hs
        obtain ⟨as, ra⟩ := dqA_reads I qx rv (okAll_plain okl)
        refine PySem.W.min_tuple_data (vs := its.toArray) (I.ok.hd hc) (show s.heap.IsTuple a its.toArray from hl) (by rw [List.toList_toArray]; exact ra) al hd fun i v h' tk bs hv hr k => ?_
        obtain ⟨w, rw', qw⟩ := item_q I qx rv okl hv hr k
        exact ⟨w, H, I.kept k, rw', q w H (fun _ _ e => e) qw⟩
    · cases er
  · cases er
/-- repr -/
def shOk (d : D) : Bool := d.showable && decide (d.shown.length ≤ 16777216)
def bRep (d : D) : Option D := match d with
  | .list xs => if okD (.list xs) = true ∧ shOk (.list xs) = true then some (.str (PyData.shown (.list xs))) else none
  | .tuple xs => if okD (.tuple xs) = true ∧ shOk (.tuple xs) = true then some (.str (PyData.shown (.tuple xs))) else none
  | _ => none
mutual
theorem okN_nodict : ∀ (n : Nat) (d : D), okN n d = true → d.hasDict = false
  | _, .none, _ => rfl
  | _, .bool _, _ => rfl
  | _, .int _, _ => rfl
  | _, .str _, _ => rfl
  | n + 1, .list xs, h => by
    show PyData.hasDictAll xs = false
    exact okN_nodictAll n xs (okN_all.mp h)
  | n + 1, .tuple xs, h => by
    show PyData.hasDictAll xs = false
    exact okN_nodictAll n xs (okN_all.mp h)
  | 0, .list _, h => by cases h
  | 0, .tuple _, h => by cases h
  | 0, .dict _, h => by cases h
  | n + 1, .dict _, h => by cases h
theorem okN_nodictAll : ∀ (n : Nat) (xs : List D), (∀ x ∈ xs, okN n x = true) → PyData.hasDictAll xs = false
  | _, [], _ => rfl
  | n, x :: xs, h => by
    show (x.hasDict || PyData.hasDictAll xs) = false
    rw [okN_nodict n x (h x List.mem_cons_self), okN_nodictAll n xs fun y hy => h y (List.mem_cons_of_mem _ hy)]
    rfl
end
theorem ck_repr (hr : X.A.units + 64 < cLine) (hg : X.A.guards = some []) : CallR X (.builtin "repr") (cD (wd X) (one bRep)) := by
  rintro pins s σ H xs us Q I rs ⟨O, ds, r, hO, b0, er0, q⟩
  obtain ⟨d, rfl, er⟩ := one_some er0
  obtain ⟨v, rfl, b⟩ := b0.one
  obtain ⟨u, rfl, ru⟩ := vals1 rs
  have main : ∀ a, v = .ref a → okD d = true → shOk d = true → r = .str d.shown → wpAny (model X.prog X.w) X.A (call (.builtin "repr") [u]) (EP X pins σ Q) X.xe s := by
    intro a ev ho hs e
    subst ev e
    obtain ⟨as, r1⟩ := bq_reads I b ru (okD_plain ho)
    have eu : u = Value.ref a := ru
    rw [eu] at r1 ⊢
    unfold shOk at hs
    rw [Bool.and_eq_true, decide_eq_true_eq] at hs
    have hdep := okD_depth ho
    exact repr_of_reads' r1 hs.1 (PyData.noDict_hsm (okN_nodict _ d ho)) hg (by omega) (fun _ _ e => e) (fun h' u tk hk => ⟨.str _, H, I.kept hk, ⟨_, rfl⟩, q _ H (fun _ _ e => e) (.str _)⟩) hs.2
  unfold bRep at er
  split at er
  · split at er
    · rename_i c
      cases er
      obtain ⟨a, _, ev, _⟩ := b.listI
      exact main a ev c.1 c.2 rfl
    · cases er
  · split at er
    · rename_i c
      cases er
      obtain ⟨a, _, ev, _⟩ := b.tupI
      exact main a ev c.1 c.2 rfl
    · cases er
  · cases er
end
end WP
end
section
set_option Elab.async false
set_option linter.all false
set_option maxRecDepth 100000
set_option autoImplicit false
/-! W16: a, b = x, y. -/
namespace WP
open PySem PySem.Spec PyProof.Rows L2

/-- values of several kinds, from the left -/
def aPar : List (Kd × EF) → Env → Out (List (Kd × D) × Env)
  | [], env => .ok ([], env)
  | (k, f) :: r, env => (f env).bind fun p => (aPar r p.2).bind fun q => .ok ((k, p.1) :: q.1, q.2)
def putE (env : Env) : List Nat → List (Kd × D) → Out Env
  | [], [] => .ok env
  | i :: is, (k, d) :: r => if i < env.length then putE (env.set i (some ⟨k, d⟩)) is r else .bad
  | _, _ => .bad
def sPar (is : List Nat) (fs : List (Kd × EF)) : SF := fun env => (aPar fs env).bind fun p => (putE p.2 is p.1).bind fun e => .ok (.nx, e)
def putS (σ : L2.St) : List Nat → List V → L2.St
  | i :: is, v :: vs => putS (σ.set i (some v)) is vs
  | _, _ => σ
inductive ParV (W : Wd) (F : Fx) (O : Addr → Prop) (H : Hp) : List (Addr × HO) → List (Kd × D) → List V → Prop
  | nil : ParV W F O H [] [] []
  | plain {pn : List (Addr × HO)} {r : List (Kd × D)} {vs : List V} {v : V} {d : D} : Dq W H O v d → ParV W F O H pn r vs → ParV W F O H pn ((.p, d) :: r) (v :: vs)
  | new {pn : List (Addr × HO)} {r : List (Kd × D)} {vs : List V} {a : Addr} {o : HO} {k : Kd} {d : D} : k ≠ .p → k ≠ .q → Cell W H O k a d → F.H0 a = none → (∀ p ∈ pn ++ F.pn, p.1 ≠ a) → ParV W F O H pn r vs → ParV W F O H ((a, o) :: pn) ((k, d) :: r) (.ref a :: vs)
section
variable {W : Wd} {F : Fx} {O O' : Addr → Prop} {env env' : Env} {σ σ' : L2.St} {H H' : Hp}
/-- a pinned list, dict is stored -/
theorem Rel.putPin {a : Addr} {o : HO} {pn : List (Addr × HO)} {k : Kd} {d : D} (R : Rel W (F.pin ((a, o) :: pn)) O env σ H) {i : Nat} (hi : i < env.length) (kp : k ≠ .p) (kq : k ≠ .q) (h0 : F.H0 a = none) (np : ∀ p ∈ pn, p.1 ≠ a) (c : Cell W H O k a d) :
    Rel W (F.pin pn) O (env.set i (some ⟨k, d⟩)) (σ.set i (some (.ref a))) H := by
  obtain ⟨c1, c2, c3⟩ := R.pin _ List.mem_cons_self
  dsimp only at c1 c2 c3
  have hσ : i < σ.length := by rw [← R.len]; exact hi
  refine ⟨by simp [R.len], fun j sl e => ?_, fun j j' sl sl' b e e' k k' h h' => ?_, R.dom, R.sub, R.frm, R.dom0, R.ss, fun t ht => ⟨(R.pin t (List.mem_cons_of_mem _ ht)).1, (R.pin t (List.mem_cons_of_mem _ ht)).2.1, fun j sl e k => ?_⟩⟩
  · rcases getset e with ⟨e1, _, e2⟩ | ⟨n, e⟩
    · cases e2
      subst e1
      exact ⟨_, List.getElem?_set_self hσ, .inr ⟨kp, a, rfl, c2, c, fun q => absurd q kq, fun _ => h0⟩⟩
    · obtain ⟨u, e1, h⟩ := R.slot j sl e
      exact ⟨u, by rw [List.getElem?_set_ne n]; exact e1, h⟩
  · rcases getset e with ⟨e1, _, e2⟩ | ⟨n, e1⟩
    · subst e1
      rw [List.getElem?_set_self hσ] at h
      cases h
      rcases getset e' with ⟨e3, _, e4⟩ | ⟨n', e3⟩
      · exact e3
      · rw [List.getElem?_set_ne n'] at h'
        exact absurd h' (c3 j' sl' e3 k')
    · rw [List.getElem?_set_ne n] at h
      rcases getset e' with ⟨e3, _, e4⟩ | ⟨n', e3⟩
      · subst e3
        rw [List.getElem?_set_self hσ] at h'
        cases h'
        exact absurd h (c3 j sl e1 k)
      · rw [List.getElem?_set_ne n'] at h'
        exact R.sep j j' sl sl' b e1 e3 k k' h h'
  · rcases getset e with ⟨e1, _, e2⟩ | ⟨n, e⟩
    · subst e1
      rw [List.getElem?_set_self hσ]
      intro z
      cases z
      exact np t ht rfl
    · rw [List.getElem?_set_ne n]
      exact (R.pin t (List.mem_cons_of_mem _ ht)).2.2 j sl e k
theorem parStore : ∀ {is : List Nat} {pn : List (Addr × HO)} {r : List (Kd × D)} {vs : List V} {env : Env} {σ : L2.St} {e : Env}, ParV W F O H pn r vs → Rel W (F.pin (pn ++ F.pn)) O env σ H → putE env is r = .ok e → Rel W F O e (putS σ is vs) H
  | [], _, _, _, env, σ, e, .nil, R, h => by
    have h : Out.ok env = Out.ok e := h
    cases h; exact R
  | i :: is, pn, _, _, env, σ, e, .plain (r := r) (vs := vs) (v := v) (d := d) q t, R, h => by
    unfold putE at h
    split at h
    · rename_i hi
      exact parStore (is := is) (σ := σ.set i (some v)) t (Rel.put (F := F.pin (pn ++ F.pn)) R hi q) h
    · cases h
  | i :: is, _, _, _, env, σ, e, .new (pn := pn) (r := r) (vs := vs) (a := a) (o := o) (k := k) (d := d) kp kq c h0 np t, R, h => by
    unfold putE at h
    split at h
    · rename_i hi
      exact parStore (is := is) (σ := σ.set i (some (.ref a))) t (Rel.putPin (F := F) (pn := pn ++ F.pn) R hi kp kq h0 np c) h
    · cases h
  | [], _, _, _, _, _, _, .plain _ _, _, h => by cases h
  | [], _, _, _, _, _, _, .new _ _ _ _ _ _, _, h => by cases h
  | _ :: _, _, _, _, _, _, _, .nil, _, h => by cases h
theorem putE_exc : ∀ {is : List Nat} {r : List (Kd × D)} {env : Env} {x : Exc}, putE env is r = .exc x → False
  | [], [], _, _, h => by cases h
  | [], _ :: _, _, _, h => by cases h
  | _ :: _, [], _, _, h => by cases h
  | i :: is, (k, d) :: r, env, x, h => by
    unfold putE at h
    split at h
    · exact putE_exc h
    · cases h
theorem ParV.step {O' : Addr → Prop} {H' : Hp} (s : Stp O H O' H') : ∀ {pn : List (Addr × HO)} {r : List (Kd × D)} {vs : List V}, (∀ p ∈ pn, ∀ o, H p.1 = some o → H' p.1 = some o) → ParV W F O H pn r vs → ParV W F O' H' pn r vs
  | _, _, _, _, .nil => .nil
  | _, _, _, k, .plain q t => .plain (q.step s) (ParV.step s k t)
  | _, _, _, k, .new kp kq c h0 np t => .new kp kq (c.step s (k _ List.mem_cons_self)) h0 np (ParV.step s (fun p hp => k p (List.mem_cons_of_mem _ hp)) t)
end
/-- an argument of such a kind, whatever is pinned -/
def DKd (X : Cx) (F : Fx) (k : Kd) (e : Expr) (f : EF) : Prop := (k = .p ∧ ∀ pn, DE X (F.pin pn) e f) ∨ (k ≠ .p ∧ k ≠ .q ∧ ∀ pn, DN X (F.pin pn) k e f)
theorem DKd.p {X : Cx} {F : Fx} {e : Expr} {f : EF} (h : ∀ pn, DE X (F.pin pn) e f) : DKd X F .p e f := .inl ⟨rfl, h⟩
theorem DKd.n {X : Cx} {F : Fx} {k : Kd} {e : Expr} {f : EF} (h : ∀ pn, DN X (F.pin pn) k e f) (kp : k ≠ .p := by decide) (kq : k ≠ .q := by decide) : DKd X F k e f := .inr ⟨kp, kq, h⟩
theorem DKd.pin {X : Cx} {F : Fx} {k : Kd} {e : Expr} {f : EF} {pn : List (Addr × HO)} (h : DKd X F k e f) : DKd X (F.pin pn) k e f := h.imp (fun ⟨a, b⟩ => ⟨a, b⟩) fun ⟨a, b, c⟩ => ⟨a, b, c⟩
def rPar (W : Wd) (F : Fx) (fs : List (Kd × EF)) : TA := fun σ H Q => ∃ O env, Rel W F O env σ H ∧ (aPar fs env).wp (fun p => ∀ O' vs H' pn, Rel W (F.pin (pn ++ F.pn)) O' p.2 σ H' → Stp O H O' H' → ParV W F O' H' pn p.1 vs → Q vs H') F.R
section
variable {X : Cx} {F : Fx} {e : Expr} {es : List Expr} {f : EF} {k : Kd} {fs : List (Kd × EF)}
theorem dp_nil : PA X [] (rPar (wd X) F []) := PA.imp pa_nil fun σ H Q ⟨O, env, R, w⟩ => w O _ H [] R .refl .nil
theorem dp_cons (h1 : DKd X F k e f) (h2 : ∀ pn, PA X es (rPar (wd X) (F.pin pn) fs)) (hs : starEach (e :: es) X.env = (false, eval e X.env) :: starEach es X.env := by rfl) : PA X (e :: es) (rPar (wd X) F ((k, f) :: fs)) := by
  rcases h1 with ⟨rfl, h1⟩ | ⟨kp, kq, h1⟩
  · refine PA.imp (pa_cons (h1 F.pn) (t := fun σ H Q => ∃ pn, rPar (wd X) (F.pin pn) fs σ H Q) ⟨fun pos pins s σ H Q I ⟨pn, q⟩ => (h2 pn).run pos pins s σ H Q I q⟩ hs) fun σ H Q ⟨O, env, R, w⟩ => ⟨O, env, R, ?_⟩
    refine Out.wp_imp (Out.wp_bind w) (fun p _ w O1 v H1 R1 s1 q1 => ⟨F.pn, O1, p.2, R1, ?_⟩) fun _ x => x
    refine Out.wp_imp (Out.wp_bind w) (fun q _ w O2 vs H2 pn R2 s2 pv => w O2 _ H2 pn R2 (s1.trans s2) (.plain (q1.step s2) ?_)) fun _ x => x
    exact pv
  · refine PA.imp (pa_cons (h1 F.pn) (t := fun σ H Q => ∃ pn, rPar (wd X) (F.pin pn) fs σ H Q) ⟨fun pos pins s σ H Q I ⟨pn, q⟩ => (h2 pn).run pos pins s σ H Q I q⟩ hs) fun σ H Q ⟨O, env, R, w⟩ => ⟨O, env, R, ?_⟩
    refine Out.wp_imp (Out.wp_bind w) (fun p _ w O1 a H1 R1 R1' s1 na h0 c => ?_) fun _ x => x
    obtain ⟨o, ho⟩ := c.there
    refine ⟨(a, o) :: F.pn, _, p.2, R1'.addPin (D := a) (o := o) ho (.inr rfl) (noOwn R1 na), ?_⟩
    refine Out.wp_imp (Out.wp_bind w) (fun q _ w O2 vs H2 pn R2 s2 pv => ?_) fun _ x => x
    have hpa := (R2.pin (a, o) (List.mem_append_right _ List.mem_cons_self)).1
    have keep : ∀ u, H1 a = some u → H2 a = some u := fun u hu => by rw [ho] at hu; cases hu; exact hpa
    -- the later ones are other addresses
    have sepF : ∀ p ∈ F.pn, p.1 ≠ a := fun p hp z => na (z ▸ (R1.pin p hp).2.1)
    have fix : ∀ {pn : List (Addr × HO)} {r : List (Kd × D)} {vs : List V}, ParV (wd X) (F.pin ((a, o) :: F.pn)) O2 H2 pn r vs → ParV (wd X) F O2 H2 pn r vs ∧ ∀ p ∈ pn, p.1 ≠ a := by
      intro pn r vs pv
      induction pv with
      | nil => exact ⟨.nil, fun p hp => by cases hp⟩
      | plain q t ih => exact ⟨.plain q ih.1, ih.2⟩
      | @new pn r vs b o' k d kp kq c h0 np t ih =>
        refine ⟨.new kp kq c h0 (fun p hp => np p ?_) ih.1, fun p hp => ?_⟩
        · rcases List.mem_append.mp hp with z | z
          · exact List.mem_append_left _ z
          · exact List.mem_append_right _ (List.mem_cons_of_mem _ z)
        · rcases List.mem_cons.mp hp with z | z
          · rw [z]; exact fun y => np (a, o) (List.mem_append_right _ List.mem_cons_self) y.symm
          · exact ih.2 p z
    obtain ⟨pv1, pv2⟩ := fix pv
    have R3 : Rel (wd X) (F.pin (((a, o) :: pn) ++ F.pn)) O2 q.2 σ H2 := R2.lessPin (hp := fun p hp => by
      rcases List.mem_append.mp hp with z | z
      · rcases List.mem_cons.mp z with z | z
        · rw [z]; exact List.mem_append_right _ List.mem_cons_self
        · exact List.mem_append_left _ z
      · exact List.mem_append_right _ (List.mem_cons_of_mem _ z))
    exact w O2 _ H2 ((a, o) :: pn) R3 (s1.trans s2) (.new kp kq (c.step s2 keep) h0 (fun p hp => (List.mem_append.mp hp).elim (pv2 p) (sepF p)) pv1)
variable {px py pz pt pos : Pos} {kt k2 : Nat} {pt2 : Pos} {i j l : Nat} {x y z : Str} {a b c : Expr} {ka kb kc : Kd} {fa fb fc : EF}
theorem par_in {is : List Nat} {D : Ends} {σ : L2.St} {H : Hp} (h : rS (wd X) F (sPar is fs) D σ H) : rPar (wd X) F fs σ H fun vs H1 => D.nx (putS σ is vs) H1 := by
  obtain ⟨O, env, R, w⟩ := h
  refine ⟨O, env, R, ?_⟩
  refine Out.wp_imp (Out.wp_bind w) (fun p _ w O1 vs H1 pn R1 s1 pv => ?_) fun _ x => x
  cases e : putE p.2 is p.1 with
  | ok e1 => rw [e] at w; exact w O1 _ H1 (parStore pv R1 e) s1
  | exc x => exact (putE_exc e).elim
  | bad => rw [e] at w; exact w.elim
theorem aPar_len : ∀ {fs : List (Kd × EF)} {env : Env} {p : List (Kd × D) × Env}, aPar fs env = .ok p → p.1.length = fs.length
  | [], _, _, h => by cases h; rfl
  | (k, f) :: r, env, p, h => by
    unfold aPar at h
    cases e : f env with
    | ok q =>
      rw [e] at h
      cases e2 : aPar r q.2 with
      | ok t =>
        have h : (aPar r q.2).bind (fun q' => Out.ok ((k, q.1) :: q'.1, q'.2)) = .ok p := h
        rw [e2] at h
        cases h
        rw [List.length_cons, List.length_cons, aPar_len e2]
      | exc x => have h : (aPar r q.2).bind (fun q' => Out.ok ((k, q.1) :: q'.1, q'.2)) = .ok p := h; rw [e2] at h; cases h
      | bad => have h : (aPar r q.2).bind (fun q' => Out.ok ((k, q.1) :: q'.1, q'.2)) = .ok p := h; rw [e2] at h; cases h
    | exc x => rw [e] at h; cases h
    | bad => rw [e] at h; cases h
theorem ParV.lens {W : Wd} {O : Addr → Prop} {H : Hp} : ∀ {pn : List (Addr × HO)} {r : List (Kd × D)} {vs : List V}, ParV W F O H pn r vs → vs.length = r.length
  | _, _, _, .nil => rfl
  | _, _, _, .plain _ t => by rw [List.length_cons, List.length_cons, t.lens]
  | _, _, _, .new _ _ _ _ _ t => by rw [List.length_cons, List.length_cons, t.lens]
theorem par_len {σ : L2.St} {H : Hp} {Q : List V → Hp → Prop} {W : Wd} (h : rPar W F fs σ H Q) : rPar W F fs σ H fun vs H1 => vs.length = fs.length ∧ Q vs H1 := by
  obtain ⟨O, env, R, w⟩ := h
  exact ⟨O, env, R, Out.wp_imp w (fun p e w O' vs H' pn R' s' pv => ⟨by rw [pv.lens, aPar_len e], w O' vs H' pn R' s' pv⟩) fun _ z => z⟩
theorem ds_par2 (hc : X.calm = true) (hN : X.N.Nodup) (hi : X.N[i]? = some x) (hj : X.N[j]? = some y) (hij : i ≠ j) (hx : X.env.scope.names.lookup x = some .local) (hy : X.env.scope.names.lookup y = some .local) (ha : PA X [a, b] (rPar (wd X) F [(ka, fa), (kb, fb)]))
    (hw : swappedStores [.Tuple [.Name x px, .Name y py] kt pt] (.Tuple [a, b] k2 pt2) X.env = pure (some [x, y])) (hs : swapsWithSole [.Tuple [.Name x px, .Name y py] kt pt] (.Tuple [a, b] k2 pt2) pos.line X.env = pure false := by rfl) :
    DS X F (.Assign [.Tuple [.Name x px, .Name y py] kt pt] (.Tuple [a, b] k2 pt2) pos) (sPar [i, j] [(ka, fa), (kb, fb)]) := by
  refine PS.imp (ps_par hc hN hi hj hij hx hy ha hw hs) fun D σ H h => ?_
  obtain ⟨O, env, R, w⟩ := par_len (par_in h)
  refine ⟨O, env, R, Out.wp_imp w (fun p _ w O' vs H' pn R' s' pv => ?_) fun _ z => z⟩
  obtain ⟨hl, q⟩ := w O' vs H' pn R' s' pv
  match vs, hl with
  | [v, w], _ => exact ⟨v, w, rfl, q⟩
theorem ds_par3 (hc : X.calm = true) (hN : X.N.Nodup) (hi : X.N[i]? = some x) (hj : X.N[j]? = some y) (hl : X.N[l]? = some z) (hij : i ≠ j) (hil : i ≠ l) (hjl : j ≠ l) (hx : X.env.scope.names.lookup x = some .local) (hy : X.env.scope.names.lookup y = some .local) (hz : X.env.scope.names.lookup z = some .local)
    (ha : PA X [a, b, c] (rPar (wd X) F [(ka, fa), (kb, fb), (kc, fc)]))
    (hw : swappedStores [.Tuple [.Name x px, .Name y py, .Name z pz] kt pt] (.Tuple [a, b, c] k2 pt2) X.env = pure (some [x, y, z])) (hs : swapsWithSole [.Tuple [.Name x px, .Name y py, .Name z pz] kt pt] (.Tuple [a, b, c] k2 pt2) pos.line X.env = pure false := by rfl) :
    DS X F (.Assign [.Tuple [.Name x px, .Name y py, .Name z pz] kt pt] (.Tuple [a, b, c] k2 pt2) pos) (sPar [i, j, l] [(ka, fa), (kb, fb), (kc, fc)]) := by
  refine PS.imp (ps_par3 hc hN hi hj hl hij hil hjl hx hy hz ha hw hs) fun D σ H h => ?_
  obtain ⟨O, env, R, w⟩ := par_len (par_in h)
  refine ⟨O, env, R, Out.wp_imp w (fun p _ w O' vs H' pn R' s' pv => ?_) fun _ z => z⟩
  obtain ⟨hl, q⟩ := w O' vs H' pn R' s' pv
  match vs, hl with
  | [u, v, w], _ => exact ⟨u, v, w, rfl, q⟩
end
end WP
end
section
set_option Elab.async false
set_option linter.all false
set_option maxRecDepth 100000
set_option autoImplicit false
/-! W17: what is walked; constants of the module; isinstance; calls with keywords. -/
namespace WP
open PySem PySem.Spec PyProof.Rows L2

section
variable {X : Cx} {F : Fx} {tg e a b : Expr} {f g : EF} {pos p : Pos}
theorem yields_list {W : Wd} {H1 : Hp} {O1 : Addr → Prop} {t : Addr} {ds : List D} (q : Dq W H1 O1 (.ref t) (.list ds)) : Yields W Dq (Itl W.K t) O1 H1 ds := by
  intro O H s
  obtain ⟨t', xs, e, hx, qx, _⟩ := (q.step s).listI
  cases e
  refine ⟨fun i hi => ?_, fun i hi => ⟨xs, hx, by rw [qx.len]; exact hi⟩⟩
  have hi' : i < xs.length := by rw [qx.len]; exact hi
  refine ⟨⟨xs, _, hx, List.getElem?_eq_getElem hi'⟩, fun x H' hy => ?_⟩
  obtain ⟨rfl, hy⟩ := hy
  refine ⟨fun _ _ e => e, fun _ => ?_⟩
  obtain ⟨d, ed, qd⟩ := qx.getV (hy xs hx)
  exact ⟨d, ed, qd⟩
theorem yields_tup {W : Wd} {H1 : Hp} {O1 : Addr → Prop} {t : Addr} {ds : List D} (q : Dq W H1 O1 (.ref t) (.tuple ds)) : Yields W Dq (Itt W.K t) O1 H1 ds := by
  intro O H s
  obtain ⟨t', xs, e, hx, _, qx, _⟩ := (q.step s).tupI
  cases e
  refine ⟨fun i hi => ?_, fun i hi => ⟨xs, hx, by rw [qx.len]; exact hi⟩⟩
  have hi' : i < xs.length := by rw [qx.len]; exact hi
  refine ⟨⟨xs, _, hx, List.getElem?_eq_getElem hi'⟩, fun x H' hy => ?_⟩
  obtain ⟨rfl, hy⟩ := hy
  refine ⟨fun _ _ e => e, fun _ => ?_⟩
  obtain ⟨d, ed, qd⟩ := qx.getV (hy xs hx)
  exact ⟨d, ed, qd⟩
theorem di_seq (h : DE X F e f) : DI X F Dq tg e (iSeq f) := by
  refine ⟨fun pins s σ H R I ⟨O, env, R0, w⟩ => ?_⟩
  refine thn (h.run pins s σ H (fun v H1 => ∃ O1 e1 d ds, Rel (wd X) F O1 e1 σ H1 ∧ Stp O H O1 H1 ∧ Dq (wd X) H1 O1 v d ∧ itemsOf d = .ok ds ∧ ∀ J, Yields (wd X) Dq J O1 H1 ds → R J H1) I
    ⟨O, env, R0, Out.wp_imp (Out.wp_bind w) (fun p _ w O1 v H1 R1 s1 q1 => ?_) fun _ z => z⟩) ?_
  · obtain ⟨ds, e, w⟩ := wp_items w
    exact ⟨O1, p.2, p.1, ds, R1, s1, q1, e, fun J Y => w O1 H1 J R1 s1 Y⟩
  · rintro v s1 ⟨x, H1, I1, r1, O1, e1, d, ds, R1, st, q1, ed, fin⟩
    have tail : ∀ (J : It) (it : Addr) (o : Obj) (tn : Nat → Heap → Prop), it = s1.heap.objs.size → Turn X.prog X.w X.K tg J [it] it tn → tn 0 (s1.heap.push o) → Yields (wd X) Dq J O1 H1 ds → PIE X pins σ tg R (.ref it) { s1 with heap := s1.heap.push o } := by
      intro J it o tn ei T t0 Y
      refine ⟨it, [it], tn, J, H1, rfl, I1.kept (t' := s1.toks) fun b o e => Heap.get?_push_of_some _ e, T, t0, fun b hb => ?_, fin J Y⟩
      have e : b = s1.heap.objs.size := by rw [← ei]; simpa using hb
      subst e
      exact I1.fpOk (Nat.le_refl _) I1.fresh
    cases d with
    | list ls =>
      cases ed
      obtain ⟨t, xs, rfl, hx, _⟩ := q1.listI
      cases r1
      obtain ⟨its, rv, pl, _⟩ := I1.list hx
      exact wpAny_pyIter_list pl.isList (tail _ _ _ _ rfl (turn_list t _) ⟨_, Heap.get?_push_size _ rfl, rfl, rfl⟩ (yields_list q1))
    | tuple ls =>
      cases ed
      obtain ⟨t, xs, rfl, hx, _⟩ := q1.tupI
      cases r1
      obtain ⟨its, rv, pl, _⟩ := I1.tuple hx
      exact wpAny_pyIter_tuple (show s1.heap.IsTuple t its.toArray from pl) (tail _ _ _ _ rfl (turn_tuple t _) ⟨_, Heap.get?_push_size _ rfl, rfl, rfl⟩ (yields_tup q1))
    | none => cases ed
    | bool _ => cases ed
    | int _ => cases ed
    | str _ => cases ed
    | dict _ => cases ed
theorem small_62 {k : Int} (h : small k = true) : -(2 ^ 62) ≤ k ∧ k < 2 ^ 62 := by
  unfold small at h
  rw [Bool.and_eq_true, decide_eq_true_eq, decide_eq_true_eq] at h
  omega
theorem rangeD_len (a b : Int) : (rangeD a b).length = (b - a).toNat := by simp [rangeD]
theorem yields_range {W : Wd} {H1 : Hp} {O1 : Addr → Prop} (a b : Int) : Yields W Dq (Itr a (b - a).toNat) O1 H1 (rangeD a b) := by
  intro O H s
  rw [rangeD_len]
  refine ⟨fun i hi => ⟨hi, fun x H' hy => ?_⟩, fun i hi => hi⟩
  obtain ⟨rfl, rfl⟩ := hy
  refine ⟨fun _ _ e => e, fun _ => ⟨.int (a + i), ?_, .int _⟩⟩
  unfold rangeD
  rw [List.getElem?_map, List.getElem?_range hi]
  rfl
theorem di_range1 (hg : Gl X "range") (hm : X.mg "range" = none) (h : DE X F a f) (hs0 : starEach [a] X.env = (false, eval a X.env) :: starEach [] X.env := by rfl) (hs : starEach [a] X.env = [(false, eval a X.env)] := by rfl) : DI X F Dq tg (.Call (.Name "range" p) [a] [] pos) (iRange1 f) := by
  refine PI.imp (pi_range1 hg hm (pa_cons h pa_nil hs0) hs) fun σ H R ⟨O, env, R0, w⟩ => ⟨O, env, R0, ?_⟩
  refine Out.wp_imp (Out.wp_bind w) (fun p _ w O1 v H1 R1 s1 q1 => ?_) fun _ x => x
  split at w
  · rename_i n en
    rw [en] at q1
    split at w
    · rename_i hz
      refine ⟨n, by rw [q1.intI], (small_62 hz).1, (small_62 hz).2, w O1 H1 _ R1 s1 ?_⟩
      have := yields_range (W := wd X) (H1 := H1) (O1 := O1) 0 n
      rwa [Int.sub_zero] at this
    · exact w.elim
  · exact w.elim
theorem di_range2 (hg : Gl X "range") (hm : X.mg "range" = none) (h1 : DE X F a f) (h2 : DE X F b g) (ha1 : starEach [a, b] X.env = (false, eval a X.env) :: starEach [b] X.env := by rfl) (ha2 : starEach [b] X.env = (false, eval b X.env) :: starEach [] X.env := by rfl)
    (hs : starEach [a, b] X.env = [(false, eval a X.env), (false, eval b X.env)] := by rfl) (hs2 : starEach [b] X.env = [(false, eval b X.env)] := by rfl) : DI X F Dq tg (.Call (.Name "range" p) [a, b] [] pos) (iRange2 f g) := by
  refine PI.imp (pi_range2 hg hm (pa_cons h1 (pa_cons h2 pa_nil ha2) ha1) hs hs2) fun σ H R ⟨O, env, R0, w⟩ => ⟨O, env, R0, ?_⟩
  refine Out.wp_imp (Out.wp_bind w) (fun p _ w O1 v H1 R1 s1 q1 => ⟨O1, p.2, R1, ?_⟩) fun _ x => x
  refine Out.wp_imp (Out.wp_bind w) (fun q _ w O2 u H2 R2 s2 q2 => ?_) fun _ x => x
  split at w
  · rename_i i j ei ej
    rw [ei] at q1
    rw [ej] at q2
    split at w
    · rename_i hz
      refine ⟨i, j, by rw [q1.intI, q2.intI], ⟨(small_62 hz.1).1, (small_62 hz.1).2, (small_62 hz.2).1, (small_62 hz.2).2⟩, w O2 H2 _ R2 (s1.trans s2) (yields_range i j)⟩
    · exact w.elim
  · exact w.elim

/-! ### constants of the module -/
def GloD (X : Cx) (x : Str) (d : D) : Prop := ∃ u v, X.mg x = some u ∧ RelV v u ∧ ∀ H O, Dq (wd X) H O v d
theorem de_glo {x : Str} {d : D} (hg : Gl X x) (h : GloD X x d) (hd : (x == ("__debug__" : Str)) = false := by decide) : DE X F (.Name x pos) (eC d) := by
  obtain ⟨u, v, hm, r, q⟩ := h
  exact PE.imp (pe_glob hg hm r hd) fun σ H Q ⟨O, env, R, w⟩ => w O _ H R .refl (q H O)

/-! ### isinstance -/
def isaOf (T : String) (d : D) : Option Bool := match T with
  | "int" => some d.isInt
  | "bool" => some d.isBool
  | "str" => some d.isStr
  | "tuple" => some d.isTuple
  | "list" => some d.isList
  | _ => none
def eIsa (T : String) (f : BF) : EF := fun env => (f env).bind fun p => (deref p.1 p.2).bind fun d => if okD d = true then (opt (isaOf T d)).bind fun r => .ok (.bool r, p.2) else .bad
theorem de_isa {T : Str} {ty : String} {fb : BF} {p2 : Pos} (hg : Gl X "isinstance") (hm : X.mg "isinstance" = none) (hgT : Gl X T) (hmT : X.mg T = none) (hvT : bootBuiltins T = some (.type ty)) (h : DB X F e fb) (hnT : T ≠ "__name__" := by decide) (hdT : (T == ("__debug__" : Str)) = false := by decide)
    (he : starEach [e, .Name T p2] X.env = (false, eval e X.env) :: starEach [.Name T p2] X.env := by rfl) (he2 : starEach [.Name T p2] X.env = (false, eval (.Name T p2) X.env) :: starEach [] X.env := by rfl) (hpl : (backTo pos (starEach [.Name T p2] X.env)).any (·.1) = false := by rfl) :
    DE X F (.Call (.Name "isinstance" p) [e, .Name T p2] [] pos) (eIsa ty fb) := by
  have hty : PE X (.Name T p2) (tC (.ty ty)) := ⟨fun _ _ _ H _ I h => ld_blt I hgT hmT hvT ⟨.ty ty, H, I, rfl, h⟩ hnT hdT⟩
  have rule : CallR X (.builtin "isinstance") (fun xs H Q => ∃ v O d b, xs = [v, .ty ty] ∧ Bq (wd X) H O v d ∧ okD d = true ∧ isaOf ty d = some b ∧ Q (.bl b) H) := by
    rintro pins s σ H xs us Q I rs ⟨v, O, d, b, rfl, bq, ho, hb, q⟩
    obtain ⟨u1, u2, rfl, r1, r2⟩ := vals2 rs
    obtain rfl : u2 = Value.type ty := r2
    obtain ⟨as, rd⟩ := bq_reads I bq r1 (okD_plain ho)
    unfold isaOf at hb
    split at hb
    · cases hb; exact PySem.W.isinstance_int_data rd fun tk _ => ⟨.bl _, H, I.tok tk, rfl, q⟩
    · cases hb; exact PySem.W.isinstance_bool_data rd fun tk _ => ⟨.bl _, H, I.tok tk, rfl, q⟩
    · cases hb; exact PySem.W.isinstance_str_data rd fun tk _ => ⟨.bl _, H, I.tok tk, rfl, q⟩
    · cases hb; exact PySem.W.isinstance_tuple_data rd fun tk _ => ⟨.bl _, H, I.tok tk, rfl, q⟩
    · cases hb; exact PySem.W.isinstance_list_data rd fun tk _ => ⟨.bl _, H, I.tok tk, rfl, q⟩
    · cases hb
  refine PE.imp (pe_callB rule hg hm PyProof.Rows.boot_isinstance (pa_cons h (pa_cons hty pa_nil he2) he) (by decide) (by decide) he hpl) fun σ H Q ⟨O, env, R, w⟩ => ⟨O, env, R, ?_⟩
  refine Out.wp_imp (Out.wp_bind w) (fun p _ w O1 v H1 R1 s1 b1 => ?_) fun _ x => x
  obtain ⟨d, e1, w⟩ := wp_deref w
  split at w
  · rename_i ho
    obtain ⟨r, e2, w⟩ := wp_opt w
    exact ⟨v, O1, d, r, rfl, deref_ok R1 b1 e1, ho, e2, w O1 _ H1 R1 s1 (.bl _)⟩
  · exact w.elim

/-! ### calls with keywords -/
def pick {α : Type} (ix : List Nat) (l : List α) : List α := ix.filterMap fun i => l[i]?
theorem dqA_pick {W : Wd} {H : Hp} {O : Addr → Prop} {vs : List V} {ds : List D} (q : DqA W H O vs ds) : ∀ ix : List Nat, DqA W H O (pick ix vs) (pick ix ds)
  | [] => .nil
  | i :: ix => by
    unfold pick
    rw [List.filterMap_cons, List.filterMap_cons]
    by_cases hi : i < ds.length
    · obtain ⟨v, h1, h2⟩ := q.get (List.getElem?_eq_getElem hi)
      rw [h1, List.getElem?_eq_getElem hi]
      exact .cons h2 (dqA_pick q ix)
    · rw [List.getElem?_eq_none (Nat.le_of_not_lt hi), List.getElem?_eq_none (by rw [q.len]; exact Nat.le_of_not_lt hi)]
      exact dqA_pick q ix
theorem vals_pick {vs : List V} {us : List Value} (r : Vals vs us) : ∀ ix : List Nat, Vals (pick ix vs) (pick ix us)
  | [] => .nil
  | i :: ix => by
    unfold pick
    rw [List.filterMap_cons, List.filterMap_cons]
    by_cases hi : i < vs.length
    · obtain ⟨u, h1, h2⟩ := r.get (List.getElem?_eq_getElem hi)
      rw [h1, List.getElem?_eq_getElem hi]
      exact .cons h2 (vals_pick r ix)
    · rw [List.getElem?_eq_none (Nat.le_of_not_lt hi), List.getElem?_eq_none (by rw [← r.length]; exact Nat.le_of_not_lt hi)]
      exact vals_pick r ix
abbrev DK (X : Cx) (F : Fx) (kws : List Keyword) (f : AF) : Prop := PK X kws (rA (wd X) F f)
theorem PK.imp {X : Cx} {es : List Keyword} {t t' : TA} (h : PK X es t) (i : ∀ σ H Q, t' σ H Q → t σ H Q) : PK X es t' := ⟨fun pos pins s σ H Q I q => h.run pos pins s σ H Q I (i σ H Q q)⟩
theorem dk_nil : DK X F [] aNil := PK.imp pk_nil fun σ H Q ⟨O, env, R, w⟩ => w O _ H R .refl .nil
theorem dk_cons {fb : BF} {fa : AF} {nm : Option Str} {kpos : Pos} {kws : List Keyword} (h1 : DB X F e fb) (h2 : DK X F kws fa) : DK X F (⟨nm, e, kpos⟩ :: kws) (aCons fb fa) := by
  refine PK.imp (pk_cons h1 h2) fun σ H Q ⟨O, env, R, w⟩ => ⟨O, env, R, ?_⟩
  refine Out.wp_imp (Out.wp_bind w) (fun p _ w O1 v H1 R1 s1 b1 => ⟨O1, p.2, R1, ?_⟩) fun _ x => x
  exact Out.wp_imp (Out.wp_bind w) (fun q _ w O2 vs H2 R2 s2 b2 => w O2 _ H2 R2 (s1.trans s2) (.cons (b1.step s2) b2)) fun _ x => x
/-- all arguments by keywords -/
def eCallK (g : List D → Out D) (ix : List Nat) (m : Nat) (f : AF) : EF := fun env => (f env).bind fun p => (valsOf p.1).bind fun ds => if ds.length = m then (g (pick ix ds)).bind fun r => .ok (r, p.2) else .bad
def CalKB (P : Program) (w : World) (K : PySem.W.Frag) (mg : Str → Option Value) (base : Heap) (CX : CXT) (k : Nat) (x : Str) (ks : List Str) (ix : List Nat) (sp : Sp) : Prop :=
  ∃ (f : Addr) (fd : FuncData) (ps : List Str), FnG P w K mg base CX k f fd ps sp ∧ mg x = some (.ref f) ∧ PySem.W.keepIn K (.ref f) = true ∧ KBn K fd ps 0 ks (fun us ws => pick ix (us ++ ws)) (fun us ws => pick ix (us ++ ws))
def CalK (X : Cx) (CX : CXT) (k : Nat) (x : Str) (ks : List Str) (ix : List Nat) (sp : Sp) : Prop := CalKB X.prog X.w X.K X.mg X.base CX k x ks ix sp
theorem CalK.ex {X : Cx} {CX : CXT} {k : Nat} {x : Str} {ks : List Str} {ix : List Nat} {sp : Sp} (c : CalK X CX k x ks ix sp) : ∃ (f : Addr) (fd : FuncData) (ps : List Str), FnG X.prog X.w X.K X.mg X.base CX k f fd ps sp ∧ X.mg x = some (.ref f) ∧ PySem.W.keepIn X.K (.ref f) = true ∧ KBn X.K fd ps 0 ks (fun us ws => pick ix (us ++ ws)) (fun us ws => pick ix (us ++ ws)) := c
theorem calK_of {P : Program} {w : World} {K : PySem.W.Frag} {mg : Str → Option Value} {base : Heap} {CX : CXT} {k : Nat} {x x' qual : Str} {params : Arguments} {body : List Stmt} {scope : Scope} {f : Addr} {fd : FuncData} {ps ks : List Str} {ix : List Nat} {sp : Sp} (F : FunD K x' qual params body scope [] [] f fd)
    (hm : mg x = some (.ref f)) (hb : KBn K fd ps 0 ks (fun us ws => pick ix (us ++ ws)) (fun us ws => pick ix (us ++ ws))) (ok : FnG P w K mg base CX k f fd ps sp) : CalKB P w K mg base CX k x ks ix sp := ⟨f, fd, ps, ok, hm, F.kp, hb⟩
theorem kbn_of {K : PySem.W.Frag} {x qual : Str} {params : Arguments} {body : List Stmt} {scope : Scope} {f : Addr} {fd : FuncData} {ps ks : List Str} (ix : List Nat) (F : FunD K x qual params body scope [] [] f fd)
    (h : ∀ (kV doc pm : Value) (an : Option Addr) (cdv ct : Value) (ws : List Value), ws.length = ks.length → bindArgs (PySem.W.fnOf x qual params body scope .none kV doc pm an cdv ct) ⟨[], ks.zip ws⟩ = pure (ps.zip (pick ix ws))) : KBn K fd ps 0 ks (fun us ws => pick ix (us ++ ws)) (fun us ws => pick ix (us ++ ws)) := by
  obtain ⟨oc, od, dV, kV, doc, pm, an, cdv, ct, osl, rfl, lk, hcd, hD, hK⟩ := F.ex
  rcases hD with ⟨_, rfl⟩ | ⟨e, _⟩
  · refine ⟨fun s us ws _ l1 l2 => ?_, fun r1 r2 => vals_pick (r1.append r2) ix⟩
    have e : us = [] := List.eq_nil_of_length_eq_zero l1
    subst e
    exact .of_eq (h kV doc pm an cdv ct ws l2)
  · exact absurd rfl e
variable {CX : CXT} {E : XK} {k j : Nat} {x : Str} {ks : List Str} {ix : List Nat} {gp : List D → Out D} {kws : List Keyword} {fa : AF}
theorem de_callKw (c : CalK X CX k x ks ix (spP (wd X) gp)) (hr : Rm X j) (hk : k ≤ j) (hx : Passes CX X E) (hF : NoR F) (hg : Gl X x) (hkw : DK X F kws fa) (hall : (backToKw pos (keywordEach kws X.env)).all (·.1.isSome) = true := by rfl) (hks : (backToKw pos (keywordEach kws X.env)).filterMap (·.1) = ks := by rfl)
    (hdb : (x == ("__debug__" : Str)) = false := by decide) (hpl : ((backTo pos (starEach [] X.env)).any (·.1) || (backToKw pos (keywordEach kws X.env)).any (·.1.isNone)) = false := by rfl) : DE X F (.Call (.Name x p) [] kws pos) (eCallK gp ix ks.length fa) := by
  obtain ⟨f, fd, ps, G, hm, kp, hb⟩ := c.ex
  refine ⟨fun pins s σ H Q I ⟨O, env, R, w⟩ => ?_⟩
  refine wpAny_Call_Name_kw (ld_glob I hg hm ?_ hdb)
  refine PySem.W.callWith_KW0 (h₀ := X.base) I.ok.mod.kin kp hall ?_ hpl
  refine thn (hkw.run pos pins s σ H (fun vs H1 => vs.length = ks.length ∧ spP (wd X) gp (pick ix vs) H1 Q E) I ⟨O, env, R, Out.wp_imp (Out.wp_bind w) (fun p _ w O1 vs H1 R1 s1 b1 => ?_) fun _ z => z⟩) fun ws s2 ⟨zs, H2, I2, rz, l2, q2⟩ => ⟨I2.kIn, ?_⟩
  · obtain ⟨ds, e1, w⟩ := wp_vals w
    have q := valsOf_ok b1 e1
    split at w
    · rename_i hl
      refine ⟨by rw [q.len]; exact hl, O1, _, R1.dom, dqA_pick q ix, ?_⟩
      exact wp_nor (Out.wp_imp (Out.wp_bind w) (fun r _ w v H' sm qv => w O1 v H' (R1.same sm) (s1.trans (.same sm)) qv) fun _ x => x) hF
    · exact w.elim
  · rw [hks]
    have r2 := hb.rel (vs := []) (us := []) .nil rz
    refine wpAny_call (codeAny_mono (G.run X.A X.stack s2 H2 ⟨[], ks.zip ws⟩ _ _ Q E (hr.1.mono hk) hr.2 I2.env0 (hb.to s2 [] ws I2.kIn rfl (rz.length.symm.trans l2)) r2 q2) fun r s' hq => ?_)
    match r, hq with
    | .error e, hq => exact hx pins σ H2 s2 e s' I2 hq
    | .ok (.ret u), hq => exact I2.after hq
    | .ok .next, hq => exact False.elim hq
    | .ok .brk, hq => exact False.elim hq
    | .ok .cont, hq => exact False.elim hq
end
end WP
end
section
set_option Elab.async false
set_option linter.all false
set_option maxRecDepth 100000
set_option autoImplicit false
/-! W18: comprehensions with two fors. -/
namespace WP
open PySem PySem.Spec PyProof.Rows L2
theorem wipe_wipe {vs1 vs : List Nat} (h : ∀ j ∈ vs1, j ∈ vs) (σ : L2.St) : L2.wipe (L2.wipe σ vs1) vs = L2.wipe σ vs := by
  refine List.ext_getElem? fun i => ?_
  by_cases hi : i ∈ vs
  · by_cases hl : i < σ.length
    · rw [wipe_get hi (by rw [wipe_length]; exact hl), wipe_get hi hl]
    · rw [List.getElem?_eq_none (by rw [wipe_length, wipe_length]; omega), List.getElem?_eq_none (by rw [wipe_length]; omega)]
  · rw [wipe_out hi, wipe_out hi, wipe_out fun z => hi (h i z)]
theorem LcI.stpD {W : Wd} {F : Fx} {σw : L2.St} {O1 : Addr → Prop} {H1 : Hp} {D : Addr} {O : Addr → Prop} {env : Env} {H : Hp} {acc : List V} {ac : List WP.D} (L : LcI W F σw O1 H1 D O env H acc ac) (o : HO) : Stp O H O (upd H D o) :=
  ⟨fun b u e n => by rw [upd_ne (fun z => n (by rw [z]; exact L.cell.2))]; exact e, fun _ h => .inl h⟩
section
variable {X : Cx} {F : Fx} {V' V1 : RelI} {it it1 : IF} {gf gf1 : GF} {tf tf1 : TF} {f : EF}
theorem lc2_in {vs vs1 T T1 : List Nat} {σ : L2.St} {H : Hp} {Q : VK} {W : Wd} (hT : ∀ j ∈ T, j ∈ vs) (hT1 : ∀ j ∈ T1, j ∈ vs1) (hv : ∀ j ∈ vs1, j ∈ vs) (h : rN W F .m (eComp2 vs vs1 it gf tf it1 gf1 tf1 f) σ H Q) :
    tLc2 (rI W F V' it) (fun v σ H Q => ∃ pn, rG W (F.inn pn) V' T gf v σ H Q) (fun σ H Q => ∃ pn, rT W (F.inn pn) tf σ H Q) (fun σ H R => ∃ pn, rI W (F.inn pn) V1 it1 σ H R) (fun v σ H Q => ∃ pn, rG W (F.inn pn) V1 T1 gf1 v σ H Q) (fun σ H Q => ∃ pn, rT W (F.inn pn) tf1 σ H Q) (fun σ H Q => ∃ pn, rD W (F.inn pn) f σ H Q) vs vs1 σ H Q := by
  obtain ⟨O, env, R, w⟩ := h
  refine ⟨O, env, R, ?_⟩
  refine Out.wp_imp (Out.wp_bind w) (fun p _ w O1 H1 J R1 s1 Y D hD => ?_) fun _ x => x
  have w := noExc_wp w
  have h0 : F.H0 D = none := R1.fresh0 hD
  have hpn : ∀ q ∈ F.pn, q.1 ≠ D := fun q hq z => by
    have r := (R1.pin q hq).1
    rw [z, hD] at r; cases r
  have nO : ¬ O1 D := new_out R1 hD
  have sm0 : SameH H1 (upd H1 D (.lst [])) := SameH.upd hD
  generalize hFin : (fun (a : List WP.D × Env) => ((Out.ok (PyData.list a.1, backE p.2 a.2 vs)).wp (fun p => ∀ O' a H', Rel W F O' p.2 σ H' → Rel W F (fun b => O' b ∨ b = a) p.2 σ H' → Stp O H (fun b => O' b ∨ b = a) H' → ¬ O' a → F.H0 a = none → Cell W H' (fun b => O' b ∨ b = a) .m a p.1 → Q (.ref a) H') F.R)) = Fin
  have w : (compOut vs vs1 gf tf it1 gf1 tf1 f p.1 [] (wipeE p.2 vs)).wp Fin fun _ => False := by rw [← hFin]; exact w
  refine ⟨fun i m Hx => m = p.1.length - i ∧ i ≤ p.1.length ∧ ∃ Ox envx acc ac, LcI W F (L2.wipe σ vs) O1 H1 D Ox envx Hx acc ac ∧ acc.length ≤ sizeLine ∧ (compOut vs vs1 gf tf it1 gf1 tf1 f (p.1.drop i) ac envx).wp Fin fun _ => False,
    ⟨_, rfl, Nat.zero_le _, (fun b => O1 b ∨ b = D), wipeE p.2 vs, [], [], ⟨?_, .nil, stp_grow sm0 hD⟩, by rw [sizeLine_eq]; simp, by rw [List.drop_zero]; exact w⟩, ?_⟩
  · exact ((R1.grow sm0 hD ⟨_, upd_same⟩).wipe vs).addPin (D := D) (o := .lst []) upd_same (.inr rfl) (noOwn (R1.wipe vs) nO)
  · rintro i m H2 ⟨rfl, hi, O2, env2, acc, ac, L, hl, w2⟩
    by_cases hlt : i < p.1.length
    · refine .inr ⟨((Y O2 H2 L.stp).1 i hlt).1, fun Hx => i + 1 ≤ p.1.length ∧ ∃ Ox envx acc ac, LcI W F (L2.wipe σ vs) O1 H1 D Ox envx Hx acc ac ∧ acc.length ≤ sizeLine ∧ (compOut vs vs1 gf tf it1 gf1 tf1 f (p.1.drop (i + 1)) ac envx).wp Fin fun _ => False,
        fun H' ⟨n1, n2⟩ => ⟨_, by omega, rfl, n1, n2⟩, fun x H3 hy => ?_⟩
      obtain ⟨sm, yv⟩ := ((Y O2 H2 L.stp).1 i hlt).2 x H3 hy
      obtain ⟨d, ed, vd⟩ := yv L.rel.dom
      rw [drop_eq ed] at w2
      refine ⟨_, O2, env2, d, L.rel.same sm, vd, ?_⟩
      refine Out.wp_imp (Out.wp_bind w2) (fun e1 _ w O3 σ3 H3' R3 s3 a3 => ?_) fun _ x => x
      have wq : L2.wipe σ3 vs = L2.wipe σ vs := by rw [(a3.mono hT).wipe, wipe_idem]
      refine ⟨wq, _, O3, e1, R3, ?_⟩
      refine Out.wp_imp (Out.wp_bind w) (fun q _ w O4 H4 R4 s4 => ?_) fun _ x => x
      have c4 : Stp O2 H2 O4 H4 := ((Stp.same (O := O2) sm).trans s3).trans s4
      by_cases k : q.1 = true
      · rw [if_pos k] at w
        dsimp only
        rw [if_pos k]
        refine ⟨_, O4, q.2, R4, ?_⟩
        refine Out.wp_imp (Out.wp_bind w) (fun r _ w O5 H5 J1 R5 s5 Y1 => ?_) fun _ x => x
        have c5 : Stp O2 H2 O5 H5 := c4.trans s5
        have w := Out.wp_bind w
        refine ⟨fun j k Hx => k = r.1.length - j ∧ j ≤ r.1.length ∧ ∃ Ox envx acc ac, LcI W F (L2.wipe σ3 vs1) O1 H1 D Ox envx Hx acc ac ∧ Stp O5 H5 Ox Hx ∧ acc.length ≤ sizeLine ∧
            (compIn vs1 gf1 tf1 f (r.1.drop j) ac envx).wp (fun t => (compOut vs vs1 gf tf it1 gf1 tf1 f (p.1.drop (i + 1)) t.1 (wipeE t.2 vs)).wp Fin fun _ => False) fun _ => False,
          ⟨_, rfl, Nat.zero_le _, O5, wipeE r.2 vs1, acc, ac, ⟨R5.wipe vs1, L.ats.step c5, L.stp.trans c5⟩, .refl, hl, by rw [List.drop_zero]; exact w⟩, ?_⟩
        rintro j k2 H6 ⟨rfl, hj, O6, env6, acc6, ac6, L6, st6, hl6, w6⟩
        by_cases hjl : j < r.1.length
        · refine .inr ⟨((Y1 O6 H6 st6).1 j hjl).1, fun Hx => j + 1 ≤ r.1.length ∧ ∃ Ox envx acc ac, LcI W F (L2.wipe σ3 vs1) O1 H1 D Ox envx Hx acc ac ∧ Stp O5 H5 Ox Hx ∧ acc.length ≤ sizeLine ∧
            (compIn vs1 gf1 tf1 f (r.1.drop (j + 1)) ac envx).wp (fun t => (compOut vs vs1 gf tf it1 gf1 tf1 f (p.1.drop (i + 1)) t.1 (wipeE t.2 vs)).wp Fin fun _ => False) fun _ => False,
            fun H' ⟨n1, n2⟩ => ⟨_, by omega, rfl, n1, n2⟩, fun x7 H7 hy7 => ?_⟩
          obtain ⟨sm7, yv7⟩ := ((Y1 O6 H6 st6).1 j hjl).2 x7 H7 hy7
          obtain ⟨d7, ed7, vd7⟩ := yv7 L6.rel.dom
          rw [drop_eq ed7] at w6
          refine ⟨_, O6, env6, d7, L6.rel.same sm7, vd7, ?_⟩
          refine Out.wp_imp (Out.wp_bind w6) (fun e8 _ w O8 σ8 H8 R8 s8 a8 => ?_) fun _ x => x
          have wq8 : L2.wipe σ8 vs1 = L2.wipe σ3 vs1 := by rw [(a8.mono hT1).wipe, wipe_idem]
          refine ⟨wq8, _, O8, e8, R8, ?_⟩
          refine Out.wp_imp (Out.wp_bind w) (fun q9 _ w O9 H9 R9 s9 => ?_) fun _ x => x
          have c9 : Stp O6 H6 O9 H9 := ((Stp.same (O := O6) sm7).trans s8).trans s9
          by_cases k9 : q9.1 = true
          · rw [if_pos k9] at w
            dsimp only
            rw [if_pos k9]
            refine ⟨_, O9, q9.2, R9, ?_⟩
            refine Out.wp_imp (Out.wp_bind w) (fun r2 _ w Oa v Ha Ra sa qa => ?_) fun _ x => x
            have ca : Stp O6 H6 Oa Ha := c9.trans sa
            have La : LcI W F (L2.wipe σ3 vs1) O1 H1 D Oa (wipeE r2.2 vs1) Ha acc6 ac6 := ⟨by have z := Ra.wipe vs1; rwa [wq8] at z, L6.ats.step ca, L6.stp.trans ca⟩
            split at w
            · rename_i hz
              have hz' : acc6.length < sizeLine := by rw [L6.ats.len]; exact hz
              refine ⟨acc6, La.cell.1, hz', hjl, Oa, _, _, _, La.snoc qa hD hpn h0, (st6.trans ca).trans (La.stpD _), ?_, w⟩
              rw [List.length_append, List.length_singleton]; omega
            · exact w.elim
          · rw [if_neg k9] at w
            dsimp only
            rw [if_neg k9]
            exact ⟨hjl, O9, wipeE q9.2 vs1, acc6, ac6, ⟨by have z := R9.wipe vs1; rwa [wq8] at z, L6.ats.step c9, L6.stp.trans c9⟩, st6.trans c9, hl6, w⟩
        · refine .inl ⟨(Y1 O6 H6 st6).2 j (by omega), ?_⟩
          rw [List.drop_eq_nil_of_le (by omega)] at w6
          refine ⟨hlt, O6, wipeE env6 vs, acc6, ac6, ⟨?_, L6.ats, L6.stp⟩, hl6, w6⟩
          have z := L6.rel.wipe vs
          rwa [wipe_wipe hv, wq] at z
      · rw [if_neg k] at w
        dsimp only
        rw [if_neg k]
        exact ⟨hlt, O4, wipeE q.2 vs, acc, ac, ⟨by have z := R4.wipe vs; rwa [wq] at z, L.ats.step c4, L.stp.trans c4⟩, hl, w⟩
    · refine .inl ⟨(Y O2 H2 L.stp).2 i (by omega), ?_⟩
      rw [List.drop_eq_nil_of_le (by omega)] at w2
      obtain ⟨cD, oD⟩ := L.cell
      have nown := (L.rel.pin _ List.mem_cons_self).2.2
      have Rb : Rel W F O2 (backE p.2 env2 vs) σ H2 := R1.back (L.rel.lessPin (F' := F) (hp := fun q hq => List.mem_cons_of_mem _ hq)) L.stp
      have nb : ∀ (i : Nat) (sl : Sl), (backE p.2 env2 vs)[i]? = some (some sl) → sl.k ≠ .p → σ[i]? ≠ some (some (.ref D)) := fun i sl e k => by
        rcases backE_get p.2 env2 e with ⟨_, q, _⟩ | ⟨q1, q2⟩
        · exact absurd q k
        · have z := nown i sl q2 k
          rwa [wipe_out q1] at z
      have Rp : Rel W (F.pin ((D, .lst acc) :: F.pn)) O2 (backE p.2 env2 vs) σ H2 := Rb.addPin (D := D) (o := .lst acc) cD oD nb
      obtain ⟨R5, R6, eO, _⟩ := Rp.unPin hpn h0
      have w3 : Fin (ac, env2) := w2
      rw [← hFin] at w3
      refine w3 _ D H2 R5 R6 (by rw [eO]; exact s1.trans L.stp) (fun z => z.2 rfl) h0 ?_
      rw [eO]
      exact ⟨acc, ac, rfl, cD, L.ats, hl⟩
variable {elt tg iter tg1 iter1 : Expr} {ifs ifs1 : List Expr} {scope : Scope} {own : List (Str × Nat)} {vs1 T T1 : List Nat} {pos spos : Pos}
theorem pi_some2 {X : Cx} {tg iter : Expr} {r : List (Addr × HO) → TI} (h : ∀ pn, PI X tg iter (r pn)) : PI X tg iter fun σ H Q => ∃ pn, r pn σ H Q := ⟨fun pins s σ H Q I ⟨pn, q⟩ => (h pn).run pins s σ H Q I q⟩
theorem dn_comp2 (hc : X.calm = true) (hN : X.N.Nodup) (hi : DI X F V' tg iter it) (ok : BlkOk X.N X.env.scope scope own) (hv : ∀ i ∈ vs1, i ∈ own.map (·.2))
    (hg : ∀ (s : Shared) (H : Hp) (C : Addr) (cl : List (Str × Addr)) (fp : List Addr) (pn : List (Addr × HO)), DG (X.blk s H scope (compEnvC scope cl C X.env) fp) (F.inn pn) V' T tg gf)
    (ht : ∀ (s : Shared) (H : Hp) (C : Addr) (cl : List (Str × Addr)) (fp : List Addr) (pn : List (Addr × HO)), DTs (X.blk s H scope (compEnvC scope cl C X.env) fp) (F.inn pn) ifs tf)
    (hi1 : ∀ (s : Shared) (H : Hp) (C : Addr) (cl : List (Str × Addr)) (fp : List Addr) (pn : List (Addr × HO)), DI (X.blk s H scope (compEnvC scope cl C X.env) fp) (F.inn pn) V1 tg1 iter1 it1)
    (hg1 : ∀ (s : Shared) (H : Hp) (C : Addr) (cl : List (Str × Addr)) (fp : List Addr) (pn : List (Addr × HO)), DG (X.blk s H scope (compEnvC scope cl C X.env) fp) (F.inn pn) V1 T1 tg1 gf1)
    (ht1 : ∀ (s : Shared) (H : Hp) (C : Addr) (cl : List (Str × Addr)) (fp : List Addr) (pn : List (Addr × HO)), DTs (X.blk s H scope (compEnvC scope cl C X.env) fp) (F.inn pn) ifs1 tf1)
    (he : ∀ (s : Shared) (H : Hp) (C : Addr) (cl : List (Str × Addr)) (fp : List Addr) (pn : List (Addr × HO)), DE (X.blk s H scope (compEnvC scope cl C X.env) fp) (F.inn pn) elt f) (hT : ∀ j ∈ T, j ∈ own.map (·.2) := by decide) (hT1 : ∀ j ∈ T1, j ∈ vs1 := by decide)
    (hs : ∀ x, foldedSetIterable iter X.env x = pure x := by intro _; rfl) (hs1 : ∀ env x, foldedSetIterable iter1 env x = pure x := by intro _ _; rfl) :
    DN X F .m (.ListComp elt [⟨tg, iter, ifs, 0⟩, ⟨tg1, iter1, ifs1, 0⟩] scope pos) (eComp2 (own.map (·.2)) vs1 it gf tf it1 gf1 tf1 f) :=
  PE.imp (pe_lc2 hc hN hi ok hv (fun s H C cl fp => pg_some (hg s H C cl fp)) (fun s H C cl fp => pts_some (ht s H C cl fp)) (fun s H C cl fp => pi_some2 (hi1 s H C cl fp)) (fun s H C cl fp => pg_some (hg1 s H C cl fp)) (fun s H C cl fp => pts_some (ht1 s H C cl fp)) (fun s H C cl fp => pe_some (he s H C cl fp)) hs hs1) fun _ _ _ z => lc2_in hT hT1 hv z
theorem ds_setLc2 {i : Nat} {y : Str} {py : Pos} (hc : X.calm = true) (hN : X.N.Nodup) (hy : X.N[i]? = some y) (hyl : X.env.scope.names.lookup y = some .local)
    (hsw : swapsWith (.ListComp elt [⟨tg, iter, ifs, 0⟩, ⟨tg1, iter1, ifs1, 0⟩] scope pos) (some (.Name y py)) spos.line X.env = pure true) (hi : DI X F V' tg iter it) (ok : BlkOk X.N X.env.scope scope own) (hv : ∀ i ∈ vs1, i ∈ own.map (·.2))
    (hg : ∀ (s : Shared) (H : Hp) (C : Addr) (cl : List (Str × Addr)) (fp : List Addr) (pn : List (Addr × HO)), DG (X.blk s H scope (compEnvC scope cl C X.env) fp) (F.inn pn) V' T tg gf)
    (ht : ∀ (s : Shared) (H : Hp) (C : Addr) (cl : List (Str × Addr)) (fp : List Addr) (pn : List (Addr × HO)), DTs (X.blk s H scope (compEnvC scope cl C X.env) fp) (F.inn pn) ifs tf)
    (hi1 : ∀ (s : Shared) (H : Hp) (C : Addr) (cl : List (Str × Addr)) (fp : List Addr) (pn : List (Addr × HO)), DI (X.blk s H scope (compEnvC scope cl C X.env) fp) (F.inn pn) V1 tg1 iter1 it1)
    (hg1 : ∀ (s : Shared) (H : Hp) (C : Addr) (cl : List (Str × Addr)) (fp : List Addr) (pn : List (Addr × HO)), DG (X.blk s H scope (compEnvC scope cl C X.env) fp) (F.inn pn) V1 T1 tg1 gf1)
    (ht1 : ∀ (s : Shared) (H : Hp) (C : Addr) (cl : List (Str × Addr)) (fp : List Addr) (pn : List (Addr × HO)), DTs (X.blk s H scope (compEnvC scope cl C X.env) fp) (F.inn pn) ifs1 tf1)
    (he : ∀ (s : Shared) (H : Hp) (C : Addr) (cl : List (Str × Addr)) (fp : List Addr) (pn : List (Addr × HO)), DE (X.blk s H scope (compEnvC scope cl C X.env) fp) (F.inn pn) elt f) (hT : ∀ j ∈ T, j ∈ own.map (·.2) := by decide) (hT1 : ∀ j ∈ T1, j ∈ vs1 := by decide)
    (hs : ∀ x, foldedSetIterable iter X.env x = pure x := by intro _; rfl) (hs1 : ∀ env x, foldedSetIterable iter1 env x = pure x := by intro _ _; rfl) :
    DS X F (.Assign [.Name y py] (.ListComp elt [⟨tg, iter, ifs, 0⟩, ⟨tg1, iter1, ifs1, 0⟩] scope pos) spos) (sSet i (eComp2 (own.map (·.2)) vs1 it gf tf it1 gf1 tf1 f)) :=
  PS.imp (ps_setLc2 hc hN hy hyl hsw hi ok hv (fun s H C cl fp => pg_some (hg s H C cl fp)) (fun s H C cl fp => pts_some (ht s H C cl fp)) (fun s H C cl fp => pi_some2 (hi1 s H C cl fp)) (fun s H C cl fp => pg_some (hg1 s H C cl fp)) (fun s H C cl fp => pts_some (ht1 s H C cl fp)) (fun s H C cl fp => pe_some (he s H C cl fp)) hs hs1) fun _ _ _ z => lc2_in hT hT1 hv (set_in z)
end
end WP
end
section
set_option Elab.async false
set_option linter.all false
set_option maxRecDepth 100000
set_option autoImplicit false
/-! W19: dicts by tuples are walked. -/
namespace WP
open PySem PySem.Spec PyProof.Rows L2

abbrev KX := List (List Key × Addr × Value)
/-- the keys of the dict object o at d, as they stand in xs -/
def Jk (d : Addr) (o : Obj) (xs : KX) : It :=
  ⟨fun i H => H d = some (extO d o) ∧ i < xs.length, fun i H x H' => H' = H ∧ ∃ r, xs[i]? = some r ∧ x = .ref r.2.1, fun i H => H d = some (extO d o) ∧ xs.length ≤ i⟩
/-- its pairs, each a new tuple -/
def Ji (d : Addr) (o : Obj) (xs : KX) (l : List (List Key × V)) : It :=
  ⟨fun i H => H d = some (extO d o) ∧ i < xs.length, fun i H x H' => ∃ t r v, xs[i]? = some r ∧ l[i]? = some v ∧ x = .ref t ∧ H t = none ∧ H' = upd H t (.tup [.ref r.2.1, v.2]), fun i H => H d = some (extO d o) ∧ xs.length ≤ i⟩
section
variable {P : Program} {w : World} {K : PySem.W.Frag} {tg : Expr} {d : Addr} {o : Obj} {es : Array DictEntry} {ep : Nat} {xs : KX} {l : List (List Key × V)}
theorem ent_get {knd : HeapKind P w (List Key)} (he : es.toList = xs.map (entryOfKey knd)) {i : Nat} {r : List Key × Addr × Value} (hx : xs[i]? = some r) : es[i]? = some (entryOfKey knd r) := by
  rw [← Array.getElem?_toList, he, List.getElem?_map, hx]; rfl
theorem ent_size {knd : HeapKind P w (List Key)} (he : es.toList = xs.map (entryOfKey knd)) : es.size = xs.length := by
  rw [← Array.length_toList, he, List.length_map]
theorem turn_k (it : Addr) (hx : o.ExactDict) (hod : o.data = .dict es ep) (he : es.toList = xs.map (entryOfKey (tupleKind (mixKind P w)))) : Turn P w K tg (Jk d o xs) [it] it (fun i h => h.IsKeyIter it d i xs.length ep) where
  mem := List.mem_singleton.mpr rfl
  obj := fun i h st b hb => by
    rw [List.mem_singleton.mp hb]
    obtain ⟨oi, e, c, dd⟩ := st
    exact ⟨oi, e, fun v z => by rw [dd] at z; cases z⟩
  keep := fun i h h' st k => st.at fun oi e => k it (List.mem_singleton.mpr rfl) oi e
  item := by
    intro X hP hw hK hc i pins s σ H E I hf st hg
    subst hP hw hK
    obtain ⟨hd, hi⟩ := hg
    obtain ⟨f0, f1, f2, f3, f4, f5⟩ := hf it (List.mem_singleton.mpr rfl)
    have hgd := (I.hok d _ hd).1
    have er := List.getElem?_eq_getElem hi
    refine next_key_item st hgd hod (ent_size he) (ent_get he er) fun h' st' sb => ?_
    have I1 : Inv X pins σ H { s with heap := h' } := I.turned (t' := s.toks) (fun b ob hb e => (sb.2 b hb).trans e) f0 f1 f3 f4 f5
    obtain ⟨oi, e, c, dd⟩ := id st'
    exact ⟨_, rfl, go_of (s := { s with heap := h' }) e c dd (by decide) ⟨.ref xs[i].2.1, H, I1, rfl, ⟨rfl, _, er, rfl⟩, st', fun b hb => (hf b hb).1⟩⟩
  done := by
    intro X hP hw hK hc i pins s σ H E I hf st hg
    subst hP hw hK
    obtain ⟨hd, hi⟩ := hg
    obtain ⟨f0, f1, f2, f3, f4, f5⟩ := hf it (List.mem_singleton.mpr rfl)
    exact next_key_end (I.ok.hd hc) st (I.hok d _ hd).1 hod (ent_size he) hi fun h' eb => ⟨rfl, I.turned (t' := s.toks) (fun b ob hb e => eb b ob hb e) f0 f1 f3 f4 f5⟩
  self := fun A i s Q E st h => by
    refine wpAny_pyIter_slot st.typeIs F.slot_dict_keyiterator_iter (wpAny_call_entry F.slot_dict_keyiterator_iter st.typeIs F.entry_dict_keyiterator_iter ?_ (F.args_dict_keyiterator_iter_1 _))
    show wpAny _ _ (ret (.ref it)) _ _ s
    exact wpAny_pure ⟨_, rfl, "dict_keyiterator", _, st.typeIs, F.slot_dict_keyiterator_next.lookup, h⟩
theorem turn_i {elts : List Expr} {kk : Nat} {tpos : Pos} (it : Addr) (hx : o.ExactDict) (hod : o.data = .dict es ep) (he : es.toList = xs.map (entryOfKey (tupleKind (mixKind P w)))) (hl : l.length = xs.length)
    (hv : ∀ (i : Nat) p r, l[i]? = some p → xs[i]? = some r → RelV p.2 r.2.2) : Turn P w K (.Tuple elts kk tpos) (Ji d o xs l) [it] it (fun i h => ∃ ok ov, IsItemIter h it d i xs.length ep ok ov) where
  mem := List.mem_singleton.mpr rfl
  obj := fun i h st b hb => by
    rw [List.mem_singleton.mp hb]
    obtain ⟨ok, ov, e⟩ := st
    exact ⟨_, e, fun v z => nomatch z⟩
  keep := fun i h h' st k => let ⟨ok, ov, e⟩ := st; ⟨ok, ov, k it (List.mem_singleton.mpr rfl) _ e⟩
  item := by
    intro X hP hw hK hc i pins s σ H E I hf st hg
    subst hP hw hK
    obtain ⟨hd, hi⟩ := hg
    have raw : DT.Raw s.heap d es ep := ⟨o, (I.hok d _ hd).1, hx, hod⟩
    have er := List.getElem?_eq_getElem hi
    have hil : i < l.length := by rw [hl]; exact hi
    have el := List.getElem?_eq_getElem hil
    have sz := ent_size he
    have hie : i < es.size := by rw [sz]; exact hi
    have ee := ent_get he er
    rw [Array.getElem?_eq_getElem hie] at ee
    have ee : es[i] = entryOfKey (tupleKind (mixKind X.prog X.w)) xs[i] := Option.some.inj ee
    obtain ⟨ok, ov, hit⟩ := st
    rw [← sz] at hit
    have hlt : it < s.heap.objs.size := Heap.lt_size hit
    refine DT.nextI hit raw hie fun h' ho hT hz hk => ?_
    rw [ee] at ho hT
    refine ⟨_, rfl, wpAny_letOwnedTupleGo_items (s := { s with heap := h' }) ho fun h'' he' sb => ?_⟩
    have hT2 : h''.get? s.heap.objs.size = some { cls := .type "tuple", data := .seq #[.ref xs[i].2.1, xs[i].2.2] } := (sb.2 _ (Nat.ne_of_gt hlt)).trans hT
    have new : ObjOk X.prog X.w (upd H s.heap.objs.size (.tup [.ref xs[i].2.1, l[i].2])) h'' s.heap.objs.size (.tup [.ref xs[i].2.1, l[i].2]) :=
      ⟨by rw [sizeLine_eq]; simp, [.ref xs[i].2.1, xs[i].2.2], .cons rfl (.cons (hv i _ _ el er) .nil), ⟨_, hT2, rfl, _, rfl⟩⟩
    have I1 : Inv X pins σ (upd H s.heap.objs.size (.tup [.ref xs[i].2.1, l[i].2])) { s with heap := h'' } :=
      I.turnedNew (t' := s.toks) (ch := [it]) (fun b ob hb e => (sb.2 b (fun z => hb (List.mem_singleton.mpr z))).trans (hk b ob (fun z => hb (List.mem_singleton.mpr z)) e)) hf (Nat.le_refl _) new
    refine ⟨.ref s.heap.objs.size, _, I1, rfl, ⟨_, _, _, er, el, rfl, I.fresh, rfl⟩, ⟨(entryOfKey (tupleKind (mixKind X.prog X.w)) xs[i]).key, (entryOfKey (tupleKind (mixKind X.prog X.w)) xs[i]).val, ?_⟩, fun b hb => ?_⟩
    · rw [← sz]; exact he'
    · rw [List.mem_singleton.mp hb, upd_ne (Nat.ne_of_lt hlt)]
      exact (hf it (List.mem_singleton.mpr rfl)).1
  done := by
    intro X hP hw hK hc i pins s σ H E I hf st hg
    subst hP hw hK
    obtain ⟨hd, hi⟩ := hg
    have raw : DT.Raw s.heap d es ep := ⟨o, (I.hok d _ hd).1, hx, hod⟩
    obtain ⟨f0, f1, f2, f3, f4, f5⟩ := hf it (List.mem_singleton.mpr rfl)
    obtain ⟨ok, ov, hit⟩ := st
    rw [← ent_size he] at hit
    exact DT.endI (I.ok.hd hc) hit raw (by rw [ent_size he]; exact hi) fun h' eb => ⟨rfl, I.turned (t' := s.toks) (fun b ob hb e => eb b ob hb e) f0 f1 f3 f4 f5⟩
  self := fun A i s Q E st h => let ⟨_, _, e⟩ := st; PySem.W.kcp_self e h
end
def iKeysT (f : EF) : IF := fun env => (f env).bind fun p => match p.1 with
  | .dict kvs => if isT kvs = true then .ok (kvs.map (·.1), p.2) else .bad
  | _ => .bad
def iItemsT (f : EF) : IF := fun env => (f env).bind fun p => match p.1 with
  | .dict kvs => if isT kvs = true then .ok (kvs.map (fun kv => .tuple [kv.1, kv.2]), p.2) else .bad
  | _ => .bad
/-- a plain dict by tuples -/
theorem dqT {W : Wd} {H : Hp} {O : Addr → Prop} {v : V} {kvs : List (D × D)} (q : Dq W H O v (.dict kvs)) (h : isT kvs = true) : ∃ a l, v = .ref a ∧ ¬ O a ∧ DTr W H O a l ∧ kvs.map (·.1) = l.map (fun p => .tuple (p.1.map keyD)) ∧ DqA W H O (l.map (·.2)) (kvs.map (·.2)) := by
  cases q with
  | dt r n e q => exact ⟨_, _, rfl, n, r, e, q⟩
  | dk r n e q =>
    rename_i a l
    cases kvs with
    | nil => cases h
    | cons kv kvs =>
      cases l with
      | nil => cases e
      | cons p l =>
        rw [List.map_cons, List.map_cons] at e
        injection e with e1 e2
        have h : keyT kv.1 = true := h
        rw [e1] at h
        cases p with
        | mk k v => cases k <;> cases h
theorem rows_get {W : Wd} {H : Hp} {O : Addr → Prop} {l : List (List Key × V)} {xs : KX} (r : KRows W H O l xs) : ∀ {i : Nat} {p : List Key × V} {q : List Key × Addr × Value}, l[i]? = some p → xs[i]? = some q → KRow W H O p q := by
  induction r with
  | nil => intro i p q h; simp at h
  | @cons a b as bs h t ih =>
    intro i p q h1 h2
    cases i with
    | zero => simp at h1 h2; subst h1 h2; exact h
    | succ i => exact ih (i := i) (by simpa using h1) (by simpa using h2)
section
variable {X : Cx} {F : Fx} {tg e : Expr} {f : EF} {apos cpos : Pos}
theorem di_keys (h : DE X F e f) : DI X F Dq tg e (iKeysT f) := by
  refine ⟨fun pins s σ H R I ⟨O, env, R0, w⟩ => ?_⟩
  refine thn (h.run pins s σ H (fun v H1 => ∃ O1 e1 kvs, Rel (wd X) F O1 e1 σ H1 ∧ Stp O H O1 H1 ∧ Dq (wd X) H1 O1 v (.dict kvs) ∧ isT kvs = true ∧ ∀ J, Yields (wd X) Dq J O1 H1 (kvs.map (·.1)) → R J H1) I
    ⟨O, env, R0, Out.wp_imp (Out.wp_bind w) (fun p _ w O1 v H1 R1 s1 q1 => ?_) fun _ z => z⟩) ?_
  · split at w
    · rename_i kvs ek
      rw [ek] at q1
      split at w
      · rename_i ht
        exact ⟨O1, p.2, kvs, R1, s1, q1, ht, fun J Y => w O1 H1 J R1 s1 Y⟩
      · exact w.elim
    · exact w.elim
  · rintro v s1 ⟨x, H1, I1, r1, O1, e1, kvs, R1, st, q1, ht, fin⟩
    obtain ⟨a, l, rfl, na, ⟨z, sm, o, es, ep, xs, hd, hx, _, hdt, he, hn, rows⟩, ek, eq⟩ := dqT q1 ht
    cases r1
    have hl : l.length = xs.length := Paired.length rows
    have szs : ∀ (i : Nat) r, xs[i]? = some r → r.1.length ≤ sizeLine := by
      intro i r hr
      have hi : i < l.length := by rw [hl]; exact (List.getElem?_eq_some_iff.mp hr).1
      have rr := rows_get rows (List.getElem?_eq_getElem hi) hr
      rw [← rr.1]; exact rr.2.1.size I1
    refine iter_keys sm (I1.hok a _ hd).1 hx hdt (pi_one (tk := s1.toks) I1 _ (turn_k (d := a) _ hx hdt he) ⟨_, Heap.get?_push_size _ rfl, rfl, ?_⟩ (fin (Jk a o xs) ?_))
    · rw [ent_size he] <;> rfl
    · intro O2 H2 s2
      have hd2 := s2.keep _ _ hd na
      have kl : (kvs.map (·.1)).length = xs.length := by rw [ek, List.length_map, hl]
      refine ⟨fun i hi => ⟨⟨hd2, by rw [← kl]; exact hi⟩, fun x H' hy => ?_⟩, fun i hi => ⟨hd2, by rw [← kl]; exact hi⟩⟩
      obtain ⟨rfl, r, hr, rfl⟩ := hy
      refine ⟨fun _ _ e => e, fun _ => ?_⟩
      have hil : i < l.length := by rw [hl, ← kl]; exact hi
      have rr := rows_get rows (List.getElem?_eq_getElem hil) hr
      refine ⟨.tuple (r.1.map keyD), ?_, (rr.2.1.step s2).dq (by rw [rr.1]; exact szs i r hr) |> fun z => by rwa [rr.1] at z⟩
      rw [ek, List.getElem?_map, List.getElem?_eq_getElem hil, ← rr.1]; rfl
theorem di_items {elts : List Expr} {kk : Nat} {tpos : Pos} (h : DE X F e f) (hbase : attributeBase e "items" X.env (eval e X.env) = eval e X.env := by rfl) (hline : (apos.endLine == cpos.line) = true := by rfl) :
    DI X F Pq (.Tuple elts kk tpos) (.Call (.Attribute e "items" apos) [] [] cpos) (iItemsT f) := by
  refine ⟨fun pins s σ H R I ⟨O, env, R0, w⟩ => ?_⟩
  refine wpAny_Call_method (T := "dict") (id := "dict.items") hbase rfl hline PySem.F.plainAttrs_dict PySem.F.slot_dict_items PySem.F.type_dict_items (thn (h.run pins s σ H (fun v H1 => ∃ O1 e1 kvs, Rel (wd X) F O1 e1 σ H1 ∧ Stp O H O1 H1 ∧ Dq (wd X) H1 O1 v (.dict kvs) ∧ isT kvs = true ∧ ∀ J, Yields (wd X) Pq J O1 H1 (kvs.map (fun kv => .tuple [kv.1, kv.2])) → R J H1) I
    ⟨O, env, R0, Out.wp_imp (Out.wp_bind w) (fun p _ w O1 v H1 R1 s1 q1 => ?_) fun _ z => z⟩) ?_)
  · split at w
    · rename_i kvs ek
      rw [ek] at q1
      split at w
      · rename_i ht
        exact ⟨O1, p.2, kvs, R1, s1, q1, ht, fun J Y => w O1 H1 J R1 s1 Y⟩
      · exact w.elim
    · exact w.elim
  · rintro v s1 ⟨x, H1, I1, r1, O1, e1, kvs, R1, st, q1, ht, fin⟩
    obtain ⟨a, l, rfl, na, ⟨z, sm, o, es, ep, xs, hd, hx, hdn, hdt, he, hn, rows⟩, ek, eq⟩ := dqT q1 ht
    cases r1
    have hl : l.length = xs.length := Paired.length rows
    have hga := (I1.hok a _ hd).1
    have raw : DT.Raw s1.heap a es ep := ⟨o, hga, hx, hdt⟩
    have szs : ∀ (i : Nat) r, xs[i]? = some r → r.1.length ≤ sizeLine := by
      intro i r hr
      have hi : i < l.length := by rw [hl]; exact (List.getElem?_eq_some_iff.mp hr).1
      have rr := rows_get rows (List.getElem?_eq_getElem hi) hr
      rw [← rr.1]; exact rr.2.1.size I1
    refine ⟨raw.typeIs, fun b e => by cases e; exact ⟨o, hga, hdn⟩, ?_⟩
    have I2 : Inv X pins σ H1 { s1 with heap := s1.heap.push { cls := .type "dict_items", data := .fields #[.ref a] } } := I1.kept (t' := s1.toks) fun b ob q => Heap.get?_push_of_some _ q
    have Y : Yields (wd X) Pq (Ji a o xs l) O1 H1 (kvs.map (fun kv => .tuple [kv.1, kv.2])) := by
      intro O2 H2 s2
      have hd2 := s2.keep _ _ hd na
      have kl : kvs.length = xs.length := by
        have z := congrArg List.length ek
        rw [List.length_map, List.length_map] at z
        rw [z, hl]
      rw [List.length_map]
      refine ⟨fun i hi => ⟨⟨hd2, by rw [← kl]; exact hi⟩, fun x H' hy => ?_⟩, fun i hi => ⟨hd2, by rw [← kl]; exact hi⟩⟩
      obtain ⟨t, r, v, hr, hv, rfl, htn, rfl⟩ := hy
      have smh : SameH H2 (upd H2 t (.tup [.ref r.2.1, v.2])) := SameH.upd htn
      refine ⟨smh, fun _ => ?_⟩
      have rr := rows_get rows hv hr
      have hkv : kvs[i]? = some kvs[i] := List.getElem?_eq_getElem hi
      refine ⟨.tuple [kvs[i].1, kvs[i].2], by rw [List.getElem?_map, hkv]; rfl, t, [.ref r.2.1, v.2], [kvs[i].1, kvs[i].2], rfl, rfl, .inl (.inl upd_same), ?_⟩
      have e1 : (kvs.map (·.1))[i]? = some kvs[i].1 := by rw [List.getElem?_map, hkv]; rfl
      rw [ek, List.getElem?_map, hv] at e1
      have e1 : PyData.tuple (v.1.map keyD) = kvs[i].1 := Option.some.inj e1
      have e2 : (kvs.map (·.2))[i]? = some kvs[i].2 := by rw [List.getElem?_map, hkv]; rfl
      obtain ⟨v', hv', qv⟩ := eq.get e2
      rw [List.getElem?_map, hv] at hv'
      have hv' : v.2 = v' := Option.some.inj hv'
      subst hv'
      refine .cons ?_ (.cons ((qv.step s2).step (.same smh)) .nil)
      rw [← e1]
      exact ((rr.2.1.step s2).step (.same smh)).dq (by rw [rr.1]; exact szs i r hr)
    have fin2 : wpAny (model X.prog X.w) X.A (pyIter (.ref s1.heap.objs.size)) (PIE X pins σ (.Tuple elts kk tpos) R) X.xe { s1 with heap := s1.heap.push { cls := .type "dict_items", data := .fields #[.ref a] } } := by
      refine DT.iterI (d := a) ⟨_, Heap.get?_push_size _ rfl, rfl, rfl⟩ (raw.push _) (pi_one (tk := s1.toks) I2 _ (turn_i (d := a) _ hx hdt he hl fun i p r h1 h2 => (rows_get rows h1 h2).2.2) ⟨.none, .none, ?_⟩ (fin _ Y))
      rw [← ent_size he]
      exact Heap.get?_push_size _ rfl
    show wpAny _ _ (callWith cpos (.builtin "dict.items") [.ref a] [] []) _ X.xe s1
    exact method_meetsIn PySem.F.slot_dict_items PySem.F.entry_dict_items rfl (PySem.evalArgs_none ⟨rfl, raw.typeIs, PySem.F.args_dict_items_1 _, _, DT.meetsItems (es := es) (ep := ep) sm, raw, fin2⟩)
end
end WP
end
section
set_option Elab.async false
set_option linter.all false
set_option maxRecDepth 100000
set_option autoImplicit false
/-! W20: sorted(set(..)). -/
namespace WP
open PySem PySem.Spec PyProof.Rows L2
def insU (x : Int) : List Int → List Int
  | [] => [x]
  | y :: ys => if x < y then x :: y :: ys else if x = y then y :: ys else y :: insU x ys
/-- in order, each once -/
def uniqS (ns : List Int) : List Int := ns.foldr insU []
theorem mem_insU (x k : Int) : ∀ ys : List Int, k ∈ insU x ys ↔ k = x ∨ k ∈ ys
  | [] => by simp [insU]
  | y :: ys => by
    unfold insU
    split
    · simp
    · split
      · rename_i e; subst e; simp
      · rw [List.mem_cons, mem_insU x k ys, List.mem_cons]
        constructor
        · rintro (h | h | h)
          · exact .inr (.inl h)
          · exact .inl h
          · exact .inr (.inr h)
        · rintro (h | h | h)
          · exact .inr (.inl h)
          · exact .inl h
          · exact .inr (.inr h)
theorem sort_insU (x : Int) : ∀ {ys : List Int}, ys.Pairwise (· < ·) → (insU x ys).Pairwise (· < ·)
  | [], _ => by simp [insU]
  | y :: ys, h => by
    rw [List.pairwise_cons] at h
    unfold insU
    split
    · rename_i c
      refine List.pairwise_cons.mpr ⟨fun z hz => ?_, List.pairwise_cons.mpr h⟩
      rcases List.mem_cons.mp hz with e | e
      · rw [e]; exact c
      · exact Int.lt_trans c (h.1 z e)
    · split
      · exact List.pairwise_cons.mpr h
      · rename_i c1 c2
        refine List.pairwise_cons.mpr ⟨fun z hz => ?_, sort_insU x h.2⟩
        rcases (mem_insU x z ys).mp hz with e | e
        · rw [e]; omega
        · exact h.1 z e
theorem mem_uniqS (k : Int) : ∀ ns : List Int, k ∈ uniqS ns ↔ k ∈ ns
  | [] => by simp [uniqS]
  | n :: ns => by
    show k ∈ insU n (uniqS ns) ↔ k ∈ n :: ns
    rw [mem_insU, mem_uniqS k ns, List.mem_cons]
theorem sort_uniqS : ∀ ns : List Int, (uniqS ns).Pairwise (· < ·)
  | [] => by simp [uniqS]
  | n :: ns => sort_insU n (sort_uniqS ns)
theorem lt_ext : ∀ {a b : List Int}, a.Pairwise (· < ·) → b.Pairwise (· < ·) → (∀ k, k ∈ a ↔ k ∈ b) → a = b
  | [], [], _, _, _ => rfl
  | [], y :: _, _, _, h => absurd ((h y).mpr List.mem_cons_self) (by simp)
  | x :: _, [], _, _, h => absurd ((h x).mp List.mem_cons_self) (by simp)
  | x :: xs, y :: ys, h1, h2, h => by
    rw [List.pairwise_cons] at h1 h2
    have e : x = y := by
      rcases List.mem_cons.mp ((h x).mp List.mem_cons_self) with e | e
      · exact e
      · rcases List.mem_cons.mp ((h y).mpr List.mem_cons_self) with e2 | e2
        · exact e2.symm
        · have := h1.1 y e2
          have := h2.1 x e
          omega
    subst e
    rw [lt_ext h1.2 h2.2 fun k => ⟨fun hk => ?_, fun hk => ?_⟩]
    · rcases List.mem_cons.mp ((h k).mp (List.mem_cons_of_mem _ hk)) with e | e
      · have := h1.1 k hk; omega
      · exact e
    · rcases List.mem_cons.mp ((h k).mpr (List.mem_cons_of_mem _ hk)) with e | e
      · have := h2.1 k hk; omega
      · exact e
def eSortSet (f : EF) : EF := fun env => (f env).bind fun p => match p.1 with
  | .tuple ds => (opt (intsOf ds)).bind fun ns => if ns.length < 60 then .ok (.list ((uniqS ns).map .int), p.2) else .bad
  | _ => .bad
section
variable {X : Cx} {F : Fx} {a : Expr} {f : EF} {p p2 q pos : Pos}
theorem cr_setTI (hc : X.calm = true) : CallR X (.type "set") (fun xs H Q => ∃ (a : Addr) (ns : List Int), xs = [.ref a] ∧ SqT X.K H a (ns.map V.int) ∧ ns.length < 60 ∧ ∀ p n, H p = none → n ≤ ns.length → Q (.ref p) (upd H p (SetO X.w p (fun j => decide (j ∈ ns)) n))) := by
  rintro pins s σ H xs us Q I rs ⟨a, ns, rfl, hs, hl, q⟩
  rw [Vals.ref1 rs]
  obtain ⟨its, rv, ht, _⟩ := I.tuple hs
  refine call_set_tupI ns (I.ok.hd hc) (show s.heap.IsTuple a its.toArray from ht) (by rw [List.toList_toArray]; exact rv.ints) (Nat.lt_of_lt_of_le (show ns.length + 1 < 61 by omega) (by decide)) fun h' tk c R hcl k => ?_
  exact ⟨.ref _, _, I.laid (o := SetO X.w s.heap.objs.size (fun j => decide (j ∈ ns)) c) k (Nat.le_refl _) (setO_new R), rfl, q _ c I.fresh hcl⟩
theorem de_sortSet (hc : X.calm = true) (hg : Gl X "sorted") (hm : X.mg "sorted" = none) (hg2 : Gl X "set") (hm2 : X.mg "set" = none) (h : DE X F a f) (hs : starEach [a] X.env = (false, eval a X.env) :: starEach [] X.env := by rfl) (hp : (backTo q (starEach [] X.env)).any (·.1) = false := by rfl)
    (hs2 : starEach [Expr.Call (.Name "set" p2) [a] [] q] X.env = (false, eval (.Call (.Name "set" p2) [a] [] q) X.env) :: starEach [] X.env := by rfl) (hp2 : (backTo pos (starEach [] X.env)).any (·.1) = false := by rfl) :
    DE X F (.Call (.Name "sorted" p) [.Call (.Name "set" p2) [a] [] q] [] pos) (eSortSet f) := by
  refine PE.imp (pe_callB (cr_sortedSet hc) hg hm PyProof.Rows.boot_sorted (pa_cons (pe_callTy (cr_setTI hc) hg2 hm2 PyProof.Rows.boot_set (pa_cons h pa_nil hs) (by decide) (by decide) hs hp) pa_nil hs2) (by decide) (by decide) hs2 hp2) fun σ H Q ⟨O, env, R, w⟩ => ⟨O, env, R, ?_⟩
  refine Out.wp_imp (Out.wp_bind w) (fun p _ w O1 v H1 R1 s1 q1 => ?_) fun _ x => x
  split at w
  · rename_i ds ed
    rw [ed] at q1
    obtain ⟨ns, en, w⟩ := wp_opt w
    obtain ⟨t, xs, rfl, hx, _, qx, _⟩ := q1.tupI
    have ex := ints_v qx en
    subst ex
    split at w
    · rename_i hl
      refine ⟨t, ns, rfl, hx, hl, fun p1 n hp1 hn => ?_⟩
      have sm1 : SameH H1 (upd H1 p1 (SetO X.w p1 (fun j => decide (j ∈ ns)) n)) := SameH.upd hp1
      have R2 := R1.same sm1
      refine ⟨p1, _, n, rfl, upd_same, by omega, fun ns' p2 hs hm hlen hp2 => ?_⟩
      have e : ns' = uniqS ns := lt_ext hs (sort_uniqS ns) fun k => by rw [hm k, mem_uniqS, decide_eq_true_eq]
      subst e
      have sm2 := SameH.upd (o := .lst ((uniqS ns).map V.int)) hp2
      refine w O1 _ _ (R2.same sm2) (s1.trans (.same (sm1.trans sm2))) (cell_val R2.dom hp2 (cell_new hp2 (ints_q _) ?_))
      rw [List.length_map, hlen, sizeLine_eq]; omega
    · exact w.elim
  · exact w.elim
end
end WP
end
section
set_option Elab.async false
set_option linter.all false
set_option maxRecDepth 100000
set_option autoImplicit false
/-! W21: a law by the function of its def. -/
namespace WP
open PySem PySem.Spec PyProof.Rows L2
section
variable {P : Program} {w : World} {K : PySem.W.Frag} {mg mb : Str → Option Value} {k : Nat} {fa a : Addr} {fd : FuncData} {x : Str} {s₁ : Shared} {vs : List Value} {ns : List Int} {g : List D → Out D}
/-- the call from without, the script as it stands at a; T: what is tracked of it -/
theorem lawG_at (inK : K.In s₁.heap) (nsG : s₁.heap.Ns mainGlobals mg) (nsB : s₁.heap.Ns builtinsNs mb) (std : ∀ x : Str, x ≠ "__name__" → mb x = bootBuiltins x) (nl : s₁.heap.NoLimit) (ng : s₁.gens = #[]) {oa : Obj} (ea : s₁.heap.get? a = some oa) (nd : ∀ es ep, oa.data ≠ .dict es ep)
    (T : Option HO) (hT : T = none ∨ ∃ u, T = some (.frz oa u)) (ok : HOk P w (fun b => if b = a then T else none) s₁.heap) (nK : T ≠ none → K.lookup a = none) (hr : Room k callerA)
    (F : ∀ base : Heap, K.In base → base.Ns mainGlobals mg → FnG P w K mg base CX0 k fa fd [x] (spP ⟨P, w, K⟩ g)) (hb : ∀ (s : Shared) (u : Value), BindsTo s fd ⟨[u], []⟩ [(x, u)]) {d : D}
    (q : Dq ⟨P, w, K⟩ (fun b => if b = a then T else none) (fun _ => False) (.ref a) d) (hg : g [d] = .ok (.bool true)) :
    codeAny (model P w) callerA (.call (.ref fa) ⟨[.ref a], []⟩) (fun r s' => r = .ok (.ret (.bool true)) ∧ OldK s₁.heap s'.heap ∧ s'.os = s₁.os ∧ AllBare s'.gens) s₁ := by
  generalize hH : (fun b => if b = a then T else none : Hp) = H at ok q
  have out : ∀ b, b ≠ a → H b = none := fun b z => by rw [← hH]; exact if_neg z
  have atA : H a = T := by rw [← hH]; exact if_pos rfl
  have seen : ∀ {b : Addr} {o : Obj}, s₁.heap.get? b = some o → H b = none → (hidT s₁.heap H).get? b = some o := fun e n => hidT_get e n
  have notA : ∀ {b : Addr} {o : Obj} {es : Array DictEntry} {ep : Nat}, s₁.heap.get? b = some o → o.data = .dict es ep → H b = none := fun {b o es ep} e z => by
    by_cases y : b = a
    · rw [y, ea] at e; cases e; exact absurd z (nd es ep)
    · exact out b y
  have ns' : ∀ {b : Addr} {m : Str → Option Value}, s₁.heap.Ns b m → (hidT s₁.heap H).Ns b m := fun {b m} ⟨o, es, ep, e, z, r⟩ => ⟨o, es, ep, seen e (notA e z), z, r⟩
  have inB : K.In (hidT s₁.heap H) := fun b o e => seen (inK b o e) (by
    by_cases y : b = a
    · rw [y, atA]
      cases hz : T with
      | none => rfl
      | some u =>
        rw [y, nK (by rw [hz]; simp)] at e; cases e
    · exact out b y)
  have md : Mod K mg (hidT s₁.heap H) := ⟨inB, ns' nsG, ⟨mb, ns' nsB, std⟩, let ⟨mc, z1, z2⟩ := nl; ⟨mc, ns' z1, z2⟩⟩
  have e0 : Env0 P w K mg (hidT s₁.heap H) callerA [] s₁ H := ⟨rfl, md, fun b o e => of_hidT e, Nat.le_of_eq (hidT_size _ _), trivial, fun b hb => (List.not_mem_nil hb).elim, ok, .of_eq ng⟩
  have want : spP ⟨P, w, K⟩ g [.ref a] H (fun v _ => v = .bl true) (fun _ _ _ => False) := by
    refine ⟨fun _ => False, [d], fun _ z => z.elim, .cons q .nil, ?_⟩
    rw [hg]
    exact fun v H' _ z => z.boolI
  refine codeAny_mono ((F _ inB (ns' nsG)).run callerA [] s₁ H ⟨[.ref a], []⟩ [.ref a] [.ref a] _ _ hr rfl e0 (hb s₁ (.ref a)) (.cons rfl .nil) want) fun r s' h => ?_
  match r, h with
  | .error e, h => exact (h : False).elim
  | .ok .next, h => exact (h : False).elim
  | .ok .brk, h => exact (h : False).elim
  | .ok .cont, h => exact (h : False).elim
  | .ok (.ret u), h =>
    obtain ⟨v, H', os, bare, un, ok', rv, qv⟩ := h
    have qv : v = .bl true := qv
    rw [qv] at rv
    have eu : u = Value.bool true := rv
    rw [eu]
    refine ⟨rfl, OldK.of_keep fun b o e => ?_, os, bare⟩
    cases hb' : H b with
    | none => exact un.keep b o e hb' (fun z => List.not_mem_nil (show b ∈ ([] : List Addr) from z)) (fun z => List.not_mem_nil z)
    | some u =>
      have yb : b = a := Classical.byContradiction fun z => by rw [out b z] at hb'; cases hb'
      rcases hT with z | ⟨u', z⟩
      · rw [yb, atA, z] at hb'; cases hb'
      · have hba : H b = some (.frz oa u') := by rw [yb, atA, z]
        obtain ⟨e2, _⟩ := ok' b _ (un.frzs b oa u' hba)
        obtain ⟨e1, _⟩ := ok b _ hba
        rw [e] at e1; cases e1
        exact e2
theorem dq_ints {W : Wd} {H : Hp} {O : Addr → Prop} (ns : List Int) : DqA W H O (ns.map .int) (ns.map .int) := ints_q ns
theorem lawG (inK : K.In s₁.heap) (nsG : s₁.heap.Ns mainGlobals mg) (nsB : s₁.heap.Ns builtinsNs mb) (std : ∀ x : Str, x ≠ "__name__" → mb x = bootBuiltins x) (nl : s₁.heap.NoLimit) (ng : s₁.gens = #[])
    (ea : s₁.heap.get? a = some { cls := .type "list", data := .seq vs.toArray }) (hi : IntsAre vs ns) (hl : ns.length ≤ sizeLine) (hr : Room k callerA) (F : ∀ base : Heap, K.In base → base.Ns mainGlobals mg → FnG P w K mg base CX0 k fa fd [x] (spP ⟨P, w, K⟩ g))
    (hb : ∀ (s : Shared) (u : Value), BindsTo s fd ⟨[u], []⟩ [(x, u)]) (hg : g [.list (ns.map .int)] = .ok (.bool true)) :
    codeAny (model P w) callerA (.call (.ref fa) ⟨[.ref a], []⟩) (fun r s' => r = .ok (.ret (.bool true)) ∧ OldK s₁.heap s'.heap ∧ s'.os = s₁.os ∧ AllBare s'.gens) s₁ := by
  have rv := vals_ints hi
  have lv := hi.length
  cases hk : K.lookup a with
  | some o =>
    have e := inK a o hk
    rw [ea] at e
    cases e
    refine lawG_at inK nsG nsB std nl ng ea (fun _ _ z => by cases z) none (.inl rfl) (fun b u z => ?_) (fun z => absurd rfl z) hr F hb (.lstK ⟨_, vs.toArray, _, hk, rfl, rfl, rfl, by rw [List.size_toArray, lv]; exact hl, by rw [List.toList_toArray]; exact rv⟩ (dq_ints ns)) hg
    dsimp only at z
    split at z <;> cases z
  | none =>
    refine lawG_at inK nsG nsB std nl ng ea (fun _ _ z => by cases z) (some (.frz { cls := .type "list", data := .seq vs.toArray } (.lst (ns.map V.int)))) (.inr ⟨_, rfl⟩) (fun b u z => ?_) (fun _ => hk) hr F hb (.lst (.inr ⟨_, if_pos rfl⟩) (fun z => z) (dq_ints ns) (by rw [List.length_map]; exact hl)) hg
    dsimp only at z
    split at z
    · rename_i y
      cases z
      rw [y]
      exact ⟨ea, by rw [List.length_map]; exact hl, vs, _, rv, ea⟩
    · cases z
end
theorem walkG {l : PySem.W.OpenLaw} {n k : Nat} {q : Program} {loose : List Str} {XP : (Str → Option Value) → Heap → Prop} {YP : World → Heap → Prop} {d : DefRec} {x : Str} (hn : l.most = some n) (hn2 : n ≤ sizeLine) (hdf : d.params.defaults = []) (hr : Room k callerA)
    (F : ∀ (w : World) (mg : Str → Option Value) (fa : Addr) (h : Heap), YP w h → h.Ns mainGlobals mg → mg d.name = some (.ref fa) → ∃ (K : PySem.W.Frag) (fd : FuncData) (g : List WP.D → Out WP.D), K.In h ∧ (∀ (s : Shared) (u : Value), BindsTo s fd ⟨[u], []⟩ [(x, u)]) ∧
      (∀ ns : List Int, ns.length ≤ n → g [.list (ns.map .int)] = .ok (.bool true)) ∧ ∀ base : Heap, K.In base → base.Ns mainGlobals mg → FnG l.prog w K mg base CX0 k fa fd [x] (spP ⟨l.prog, w, K⟩ g)) :
    PySem.W.WalkO q loose XP YP l.row.toRowW d [] (fun f vs => PySem.call f vs) := by
  refine Att.attach_call hn hdf fun w s₀ s₁ mg mb fa o pm cd doc a vs ns G Y ho hd hcd hmg hobj hints hlen hg => ?_
  obtain ⟨K, fd, g, KX, hb, hsp, hF⟩ := F w mg fa _ Y G.T.g hmg
  exact lawG KX G.T.g G.T.b G.T.builtins G.T.nolimit hg hobj hints (Nat.le_trans hlen hn2) hr hF hb (hsp ns hlen)
end WP
end
section
set_option Elab.async false
set_option linter.all false
set_option maxRecDepth 100000
set_option autoImplicit false
/-! W22: small words for derivations; the head's facts. -/
namespace WP
open PySem PySem.Spec PyProof.Rows L2
def visB (sc : Scope) (x : Str) : Bool := match sc.names.lookup x with
  | some .local => true
  | some .cell => true
  | some .free => true
  | _ => false
def locB (sc : Scope) (x : Str) : Bool := match sc.names.lookup x with
  | some .local => true
  | some .cell => true
  | _ => false
theorem vis_of {sc : Scope} {x : Str} (h : visB sc x = true) : Vis sc x := by
  unfold visB at h
  split at h
  · rename_i e; exact .inl e
  · rename_i e; exact .inr (.inl e)
  · rename_i e; exact .inr (.inr e)
  · cases h
theorem loc_of {sc : Scope} {x : Str} (h : locB sc x = true) : Loc sc x := by
  unfold locB at h
  split at h
  · rename_i e; exact .inl e
  · rename_i e; exact .inr e
  · cases h
def blkB (N : List Str) (sc scope : Scope) (own : List (Str × Nat)) : Bool :=
  decide (scope.kind = .function) && (scope.names.all (fun y => decide (scope.names.lookup y.1 = some y.2)) && (own.all (fun p => decide (N[p.2]? = some p.1)) &&
  (scope.names.all (fun y => !decide (y.2 = .free) || (decide (sc.names.lookup y.1 = some .cell) || decide (sc.names.lookup y.1 = some .free))) &&
   scope.names.all fun y => !(decide (y.2 = .local) || decide (y.2 = .cell)) || (decide (y.1 ∈ own.map (·.1)) || decide (y.1 ∉ N)))))
theorem blkOk_of {N : List Str} {sc scope : Scope} {own : List (Str × Nat)} (h : blkB N sc scope own = true) : BlkOk N sc scope own := by
  unfold blkB at h
  simp only [Bool.and_eq_true, List.all_eq_true, Bool.or_eq_true, Bool.not_eq_true', decide_eq_true_eq, decide_eq_false_iff_not] at h
  obtain ⟨h1, h2, h3, h4, h5⟩ := h
  refine ⟨h1, h2, h3, fun y hy e => ?_, fun y hy e => ?_⟩
  · exact (h4 y hy).elim (fun z => absurd e z) id
  · refine (h5 y hy).elim (fun z => ?_) id
    rw [Bool.or_eq_false_iff, decide_eq_false_iff_not, decide_eq_false_iff_not] at z
    rcases e with e | e
    · exact absurd e z.1
    · exact absurd e z.2
def opMulI : D → D → Option D := fun x y => match x, y with
  | .int a, .int b => opMul (.int a) (.int b)
  | _, _ => none
def fuel : Env → Nat := fun _ => 16777216
theorem un64 {X : Cx} {j : Nat} (hr : Rm X j) : X.A.units + 64 < cLine := by
  have := hr.1.un
  omega
section
variable {X : Cx} {F : Fx} {e a b : Expr} {es : List Expr} {fa : AF} {fb gb : BF} {pos : Pos}
theorem dn_callTy {x : Str} {p : Pos} {T : String} {od : List D → Option D} (hc : CallR X (.type T) (cN (wd X) od)) (hg : Gl X x) (hm : X.mg x = none) (hv : bootBuiltins x = some (.type T)) (ha : DA X F (e :: es) fa) (hn : x ≠ "__name__" := by decide)
    (hdb : (x == ("__debug__" : Str)) = false := by decide) (he : starEach (e :: es) X.env = (false, eval e X.env) :: starEach es X.env := by rfl) (hpl : (backTo pos (starEach es X.env)).any (·.1) = false := by rfl) :
    DN X F .m (.Call (.Name x p) (e :: es) [] pos) (eB od fa) := by
  refine PE.imp (pe_callTy hc hg hm hv ha hn hdb he hpl) fun σ H Q ⟨O, env, R, w⟩ => ⟨O, env, R, ?_⟩
  refine Out.wp_imp (Out.wp_bind w) (fun p _ w O1 vs H1 R1 s1 b1 => ?_) fun _ x => x
  obtain ⟨ds, e1, w⟩ := wp_derefs w
  obtain ⟨r, e3, w⟩ := wp_opt w
  exact ⟨O1, ds, r, R1.dom, derefs_ok R1 b1 e1, e3, fun q H' hq sm c => w O1 q H' (R1.same sm) (R1.grow sm hq c.there) (s1.trans (stp_grow sm hq)) (new_out R1 hq) (R1.fresh0 hq) c⟩
theorem ds_break : DS X F (.Break pos) (fun env => .ok (.bk, env)) := PS.imp ps_break fun D σ H ⟨O, env, R, w⟩ => w O σ H R .refl
theorem ds_continue : DS X F (.Continue pos) (fun env => .ok (.ct, env)) := PS.imp ps_continue fun D σ H ⟨O, env, R, w⟩ => w O σ H R .refl
end
/-! ### the head's facts, tuples among them -/
def flatD : D → Value → Bool
  | .int i, .int j _ => decide (i = j)
  | .str x, .str y _ => decide (x = y)
  | _, _ => false
def flatA : List D → List Value → Bool
  | [], [] => true
  | d :: ds, v :: vs => flatD d v && flatA ds vs
  | _, _ => false
def tupC (K : PySem.W.Frag) (x : Str) (ds : List D) : Bool := He.eqO (PySem.W.nsIn K mainGlobals x) (some (some (.ref (He.ga K x)))) && match K.lookup (He.ga K x) with
  | some ⟨.type c, none, .seq its n, _⟩ => decide (c = "tuple") && (decide (its.size ≤ sizeLine) && flatA ds its.toList)
  | _ => false
def tupsB (K : PySem.W.Frag) (ts : List (Str × List D)) : Bool := ts.all fun p => tupC K p.1 p.2
abbrev AlW : Type := Bool × He.AlD
def obsW (n : Nat) (fa : List He.Fa) (fn : List He.DefD) (ts : List (Str × List D)) (g : Addr → Option Obj) : AlW := (tupsB (He.frG g (He.asD g n)) ts, He.obsDG n fa fn g)
def SaysW (fa : List He.Fa) (fn : List He.DefD) (ts : List (Str × List D)) (K : PySem.W.Frag) : Prop := He.SaysD fa fn K ∧ tupsB K ts = true
def hookW (n : Nat) (fa : List He.Fa) (fn : List He.DefD) (ts : List (Str × List D)) : PySem.W.Hook where
  α := AlW
  obs := fun s => obsW n fa fn ts s.heap.get?
  val := fun _ => (true, He.valD fn)
  says := fun _ h => ∃ K : PySem.W.Frag, K.In h ∧ SaysW fa fn ts K
  of := fun _ _ e => ⟨_, He.frG_in, by injection e with e1 e2; exact ⟨e2, e1⟩⟩
  keeps := fun _ _ _ ⟨K, hK, c⟩ k => ⟨K, PySem.W.Frag.In.keeps hK k, c⟩
theorem obsW_eq {n : Nat} {fa : List He.Fa} {fn : List He.DefD} {ts : List (Str × List D)} {g : Addr → Option Obj} {s : Shared} (h : ∀ a, g a = s.heap.get? a) : obsW n fa fn ts g = (hookW n fa fn ts).obs s := by
  have e : g = s.heap.get? := funext h
  subst e
  rfl
def GloB (P : Program) (w : World) (K : PySem.W.Frag) (mg : Str → Option Value) (x : Str) (d : D) : Prop := ∃ u v, mg x = some u ∧ RelV v u ∧ ∀ H O, Dq ⟨P, w, K⟩ H O v d
theorem GloB.at {X : Cx} {x : Str} {d : D} (h : GloB X.prog X.w X.K X.mg x d) : GloD X x d := h
section
variable {P : Program} {w : World} {K : PySem.W.Frag} {mg : Str → Option Value} {h : Heap}
theorem glo_int (X : K.In h) (G : h.Ns mainGlobals mg) {x : Str} {i : Int} (c : (He.Fa.int x i).ok K = true) : GloB P w K mg x (.int i) := let ⟨t, e⟩ := He.int_ok X G c; ⟨_, .int i, e, ⟨t, rfl⟩, fun _ _ => .int i⟩
theorem glo_str (X : K.In h) (G : h.Ns mainGlobals mg) {x z : Str} (c : (He.Fa.str x z).ok K = true) : GloB P w K mg x (.str z) := let ⟨t, e⟩ := He.str_ok X G c; ⟨_, .str z, e, ⟨t, rfl⟩, fun _ _ => .str z⟩
theorem flatA_ok {W : Wd} {H : Hp} {O : Addr → Prop} : ∀ {ds : List D} {us : List Value}, flatA ds us = true → ∃ vs, Vals vs us ∧ DqA W H O vs ds
  | [], [], _ => ⟨[], .nil, .nil⟩
  | [], _ :: _, h => by cases h
  | _ :: _, [], h => by cases h
  | d :: ds, u :: us, h => by
    have h : (flatD d u && flatA ds us) = true := h
    rw [Bool.and_eq_true] at h
    obtain ⟨vs, r, q⟩ := flatA_ok (W := W) (H := H) (O := O) h.2
    have h1 := h.1
    unfold flatD at h1
    split at h1
    · rename_i i j t
      have e := of_decide_eq_true h1
      subst e
      exact ⟨.int _ :: vs, .cons ⟨_, rfl⟩ r, .cons (.int _) q⟩
    · rename_i i j t
      have e := of_decide_eq_true h1
      subst e
      exact ⟨.str _ :: vs, .cons ⟨_, rfl⟩ r, .cons (.str _) q⟩
    · cases h1
theorem glo_tup (X : K.In h) (G : h.Ns mainGlobals mg) {x : Str} {ds : List D} (c : tupC K x ds = true) : GloB P w K mg x (.tuple ds) := by
  unfold tupC at c
  rw [Bool.and_eq_true] at c
  have hm : mg x = some (.ref (He.ga K x)) := PySem.W.mg_of X G (He.eqO_ok c.1)
  refine ⟨_, .ref (He.ga K x), hm, rfl, fun H O => ?_⟩
  have c2 := c.2
  split at c2
  · rename_i cc its n sl e
    rw [Bool.and_eq_true, Bool.and_eq_true] at c2
    obtain ⟨vs, r, q⟩ := flatA_ok (W := ⟨P, w, K⟩) (H := H) (O := O) c2.2.2
    exact .tupK ⟨_, its, n, e, congrArg Value.type (of_decide_eq_true c2.1), rfl, rfl, of_decide_eq_true c2.2.1, r⟩ q
  · cases c2
theorem tups_at {ts : List (Str × List D)} (c : tupsB K ts = true) (i : Nat) {x : Str} {ds : List D} (e : ts[i]? = some (x, ds)) : tupC K x ds = true := List.all_eq_true.mp c _ (List.mem_of_getElem? e)
end
end WP
end
section
set_option Elab.async false
set_option linter.all false
set_option maxRecDepth 100000
set_option maxHeartbeats 0
namespace WP
open PySem PySem.Spec PyProof.Rows L2
/-- _law_bag(script, lap): slots 0 script, 1 lap, 2 stirred, 3 cell, 4 own -/
def b__law_bag : SF := sSeq (sSet 2 (eOp opAdd (bV (eC (.int 52027))) (bV (eOp opMulI (bV (eC (.int 8009))) (bV (eVar 1)))))) (sSeq (sFor [3] (iSeq (eSl (bV (eVar 0)) (pNo) (pInt (eC (.int 16))))) (WP.gName 3) (sSet 2 (eOp opMod (bV (eB (one bInt) (aCons (bV (eOp opAdd (bV (eOp opAdd (bV (eOp opMulI (bV (eVar 2)) (bV (eC (.int 48271))))) (bV (eOp opMod (bV (eB (one bInt) (aCons (bV (eVar 3)) (aNil)))) (bV (eC (.int 2147483629))))))) (bV (eC (.int 23))))) (aNil)))) (bV (eC (.int 2147483647)))))) (sSeq (sSet 4 (eIf (WP.tB (eOp opLt (bV (eVar 1)) (bV (eB (one bLen) (aCons (bV (eVar 0)) (aNil)))))) (eB (one bInt) (aCons (bV (eOp opIx (bV (eVar 0)) (bV (eVar 1)))) (aNil))) (eC (.int 0)))) (sSeq (sSet 2 (eOp opMod (bV (eB (one bInt) (aCons (bV (eOp opAdd (bV (eOp opAdd (bV (eOp opMulI (bV (eVar 2)) (bV (eC (.int 31))))) (bV (eOp opMulI (bV (eOp opMod (bV (eB (one bInt) (aCons (bV (eVar 4)) (aNil)))) (bV (eC (.int 2147483629))))) (bV (eC (.int 17))))))) (bV (eC (.int 3))))) (aNil)))) (bV (eC (.int 2147483647))))) (sRet (eLst (aCons (bV (eIf (WP.tOr (WP.tB (eOp opLt (bV (eVar 4)) (bV (eC (.int 0))))) (WP.tB (eOp opGe (bV (eVar 4)) (bV (eOp opPow (bV (eC (.int 10))) (bV (eC (.int 15)))))))) (eB (one bAbs) (aCons (bV (eVar 4)) (aNil))) (eC (.int 0)))) (aCons (bV (eVar 2)) (aCons (bV (eC (.int 0))) (aNil)))))))))
def g__law_bag : List D → Out D := defN 5 2 b__law_bag
/-- _law_take(bag, top): slots 0 bag, 1 top, 2 digit -/
def b__law_take : SF := sSeq (sIf (WP.tB (eOp opGt (bV (eOp opIx (bS 0) (bV (eC (.int 0))))) (bV (eC (.int 0))))) (sSeq (sAsg (WP.gTup [gAt 0 (eC (.int 0)), WP.gName 2]) (eB (two bDivmod) (aCons (bV (eOp opIx (bS 0) (bV (eC (.int 0))))) (aCons (bV (eVar 1)) (aNil))))) (sRet (eVar 2))) (sNext)) (sSeq (sAsg (gAt 0 (eC (.int 2))) (eOp opAdd (bV (eOp opIx (bS 0) (bV (eC (.int 2))))) (bV (eC (.int 1))))) (sSeq (sAsg (gAt 0 (eC (.int 1))) (eOp opMod (bV (eB (one bInt) (aCons (bV (eOp opAdd (bV (eOp opAdd (bV (eOp opMulI (bV (eOp opIx (bS 0) (bV (eC (.int 1))))) (bV (eC (.int 16807))))) (bV (eOp opMulI (bV (eC (.int 4099))) (bV (eOp opIx (bS 0) (bV (eC (.int 2))))))))) (bV (eC (.int 1))))) (aNil)))) (bV (eC (.int 2147483647))))) (sRet (eOp opMod (bV (eB (one bInt) (aCons (bV (eOp opDiv (bV (eOp opIx (bS 0) (bV (eC (.int 1))))) (bV (eC (.int 911))))) (aNil)))) (bV (eVar 1))))))
def g__law_take : List D → List D → Out (D × List D) := defM 3 2 b__law_take
/-- _law_row(bag, most): slots 0 bag, 1 most, 2 kinds, 3 place -/
def b__law_row : SF := sSeq (sSet 2 (eOp opAdd (bV (eC (.int 2))) (bV (eCallM g__law_take 0 (aCons (bV (eC (.int 3))) (aNil)))))) (sRet (eTup (aCons (bV (eVar 2)) (aCons (bV (eB (one bTuple) (aCons (bV (eComp [3] (iRange1 (eOp opAdd (bV (eC (.int 1))) (bV (eCallM g__law_take 0 (aCons (bV (eVar 1)) (aNil)))))) (WP.gName 3) (tTrue) (eCallM g__law_take 0 (aCons (bV (eVar 2)) (aNil))))) (aNil)))) (aNil)))))
def g__law_row : List D → List D → Out (D × List D) := defM 4 2 b__law_row
/-- _law_pull(bag, some): slots 0 bag, 1 some -/
def b__law_pull : SF := sRet (eOp opIx (bV (eVar 1)) (bV (eCallM g__law_take 0 (aCons (bV (eB (one bLen) (aCons (bV (eVar 1)) (aNil)))) (aNil)))))
def g__law_pull : List D → List D → Out (D × List D) := defM 2 2 b__law_pull
/-- _law_way(bag): slots 0 bag -/
def b__law_way : SF := sRet (eCallM g__law_pull 0 (aCons (bV (eLst (aCons (bV (eC (.str "any"))) (aCons (bV (eC (.str "near"))) (aCons (bV (eC (.str "move"))) (aCons (bV (eC (.str "front"))) (aNil))))))) (aNil)))
def g__law_way : List D → List D → Out (D × List D) := defM 1 1 b__law_way
/-- _law_numbers(off): slots 0 off, 1 far, 2 row, 3 own -/
def b__law_numbers : SF := sSeq (sSet 1 (eComp [2] (iKeysT (eVar 0)) (WP.gName 2) (tTrue) (eOp opAt (bV (eVar 0)) (bV (eVar 2))))) (sRet (eB (one bTuple) (aCons (bV (eComp [3] (iRange1 (eOp opAdd (bV (eB (one bMax) (aCons (bV (eVar 1)) (aNil)))) (bV (eC (.int 1))))) (WP.gName 3) (tTrue) (eSeqM mCount (eVar 1) (aCons (bV (eVar 3)) (aNil))))) (aNil))))
def g__law_numbers : List D → Out D := defP 4 1 b__law_numbers
/-- _law_steps(row, way): slots 0 row, 1 way, 2 found, 3 wide, 4 i, 5 j, 6 rest -/
def b__law_steps : SF := sSeq (sPar [2, 3] [(.m, eLst (aNil)), (.p, eB (one bLen) (aCons (bV (eVar 0)) (aNil)))]) (sSeq (sFor [4] (iRange1 (eVar 3)) (WP.gName 4) (sFor [5] (iRange1 (eVar 3)) (WP.gName 5) (sIf (WP.tOr (WP.tB (eOp opEq (bV (eVar 1)) (bV (eC (.str "move"))))) (WP.tAnd (WP.tB (eOp opEq (bV (eVar 1)) (bV (eC (.str "front"))))) (WP.tB (eOp opEq (bV (eVar 5)) (bV (eC (.int 0))))))) (sSeq (sSet 6 (eOp opAdd (bV (eSl (bV (eVar 0)) (pNo) (pInt (eVar 4)))) (bV (eSl (bV (eVar 0)) (pInt (eOp opAdd (bV (eVar 4)) (bV (eC (.int 1))))) (pNo))))) (sDrop (eAppend 2 (eOp opAdd (bV (eOp opAdd (bV (eSl (bV (eVar 6)) (pNo) (pInt (eVar 5)))) (bV (eTup (aCons (bV (eOp opIx (bV (eVar 0)) (bV (eVar 4)))) (aNil)))))) (bV (eSl (bV (eVar 6)) (pInt (eVar 5)) (pNo))))))) (sIf (WP.tAnd (WP.tB (eOp opLt (bV (eVar 4)) (bV (eVar 5)))) (WP.tOr (WP.tB (eOp opEq (bV (eVar 1)) (bV (eC (.str "any"))))) (WP.tOr (WP.tAnd (WP.tB (eOp opEq (bV (eVar 1)) (bV (eC (.str "near"))))) (WP.tB (eOp opEq (bV (eVar 5)) (bV (eOp opAdd (bV (eVar 4)) (bV (eC (.int 1)))))))) (WP.tAnd (WP.tB (eOp opEq (bV (eVar 1)) (bV (eC (.str "ring"))))) (WP.tB (eOp opIn (bV (eOp opSub (bV (eVar 5)) (bV (eVar 4)))) (bV (eTup (aCons (bV (eC (.int 1))) (aCons (bV (eOp opSub (bV (eVar 3)) (bV (eC (.int 1))))) (aNil))))))))))) (sDrop (eAppend 2 (eOp opAdd (bV (eOp opAdd (bV (eOp opAdd (bV (eOp opAdd (bV (eSl (bV (eVar 0)) (pNo) (pInt (eVar 4)))) (bV (eTup (aCons (bV (eOp opIx (bV (eVar 0)) (bV (eVar 5)))) (aNil)))))) (bV (eSl (bV (eVar 0)) (pInt (eOp opAdd (bV (eVar 4)) (bV (eC (.int 1))))) (pInt (eVar 5)))))) (bV (eTup (aCons (bV (eOp opIx (bV (eVar 0)) (bV (eVar 4)))) (aNil)))))) (bV (eSl (bV (eVar 0)) (pInt (eOp opAdd (bV (eVar 5)) (bV (eC (.int 1))))) (pNo)))))) (sNext))))) (sRet (eFrz 2)))
def g__law_steps : List D → Out D := defP 7 2 b__law_steps
/-- _law_off(row, way): slots 0 row, 1 way, 2 found, 3 front, 4 later, 5 own, 6 each -/
def b__law_off : SF := sSeq (sPar [2, 3] [(.dt, eD1 (eVar 0) (eC (.int 0))), (.p, eLst (aCons (bV (eVar 0)) (aNil)))]) (sSeq (sWhile [4] fuel (WP.tB (eOp opNe (bV (eVar 3)) (bV (eLst (aNil))))) (sSeq (sNew 4 .m (eLst (aNil))) (sSeq (sFor [5] (iSeq (eVar 3)) (WP.gName 5) (sFor [6] (iSeq (eCall g__law_steps (aCons (bV (eVar 5)) (aCons (bV (eVar 1)) (aNil))))) (WP.gName 6) (sIf (WP.tB (eOp opHasNot (bV (eVar 6)) (bS 2))) (sSeq (sAsg (gKey 2 (eVar 6)) (eOp opAdd (bV (eOp opAt (bS 2) (bV (eVar 5)))) (bV (eC (.int 1))))) (sDrop (eAppend 4 (eVar 6)))) (sNext)))) (sSet 3 (eFrz 4))))) (sRet (eFrz 2)))
def g__law_off : List D → Out D := defP 7 2 b__law_off
/-- is_whole(value): slots 0 value -/
def b_is_whole : SF := sRet (eAnd (eIsa "int" (bV (eVar 0))) (eNot (eIsa "bool" (bV (eVar 0)))))
def g_is_whole : List D → Out D := defP 1 1 b_is_whole
/-- is_between(value, least, most): slots 0 value, 1 least, 2 most -/
def b_is_between : SF := sRet (eAnd (eCall g_is_whole (aCons (bV (eVar 0)) (aNil))) (eChain opLe opLe (bV (eVar 1)) (bV (eVar 0)) (bV (eVar 2))))
def g_is_between : List D → Out D := defP 3 3 b_is_between
/-- is_kinds(value): slots 0 value -/
def b_is_kinds : SF := sRet (eCall g_is_between (aCons (bV (eVar 0)) (aCons (bV (eC (.int 2))) (aCons (bV (eC (.int 4))) (aNil)))))
def g_is_kinds : List D → Out D := defP 1 1 b_is_kinds
/-- check_kinds(kinds): slots 0 kinds -/
def b_check_kinds : SF := sIf (WP.tNot (WP.tB (eCall g_is_kinds (aCons (bV (eVar 0)) (aNil))))) (sNever) (sNext)
def g_check_kinds : List D → Out D := defP 1 1 b_check_kinds
/-- is_kind(kinds, value): slots 0 kinds, 1 value -/
def b_is_kind : SF := sRet (eCall g_is_between (aCons (bV (eVar 1)) (aCons (bV (eC (.int 0))) (aCons (bV (eOp opSub (bV (eVar 0)) (bV (eC (.int 1))))) (aNil)))))
def g_is_kind : List D → Out D := defP 2 2 b_is_kind
/-- is_row(kinds, value): slots 0 kinds, 1 value, 2 own -/
def b_is_row : SF := sSeq (sIf (WP.tOr (WP.tNot (WP.tB (eIsa "tuple" (bV (eVar 1))))) (WP.tNot (WP.tB (eChain opLe opLe (bV (eC (.int 1))) (bV (eB (one bLen) (aCons (bV (eVar 1)) (aNil)))) (bV (eC (.int 7))))))) (sRet (eC (.bool false))) (sNext)) (sRet (eB (one bAll) (aCons (bV (eComp [2] (iSeq (eVar 1)) (WP.gName 2) (tTrue) (eCall g_is_kind (aCons (bV (eVar 0)) (aCons (bV (eVar 2)) (aNil)))))) (aNil))))
def g_is_row : List D → Out D := defP 3 2 b_is_row
/-- check_row(kinds, value): slots 0 kinds, 1 value -/
def b_check_row : SF := sIf (WP.tNot (WP.tB (eCall g_is_row (aCons (bV (eVar 0)) (aCons (bV (eVar 1)) (aNil)))))) (sNever) (sNext)
def g_check_row : List D → Out D := defP 2 2 b_check_row
/-- check_rowed(kinds, row): slots 0 kinds, 1 row -/
def b_check_rowed : SF := sSeq (sDrop (eCall g_check_kinds (aCons (bV (eVar 0)) (aNil)))) (sDrop (eCall g_check_row (aCons (bV (eVar 0)) (aCons (bV (eVar 1)) (aNil)))))
def g_check_rowed : List D → Out D := defP 2 2 b_check_rowed
/-- is_string(value): slots 0 value -/
def b_is_string : SF := sRet (eIsa "str" (bV (eVar 0)))
def g_is_string : List D → Out D := defP 1 1 b_is_string
/-- is_way(value): slots 0 value -/
def b_is_way : SF := sRet (eAnd (eCall g_is_string (aCons (bV (eVar 0)) (aNil))) (eOp opIn (bV (eVar 0)) (bV (eC (.tuple [(.str "any"), (.str "near"), (.str "move"), (.str "front")])))))
def g_is_way : List D → Out D := defP 1 1 b_is_way
/-- check_way(way): slots 0 way -/
def b_check_way : SF := sIf (WP.tNot (WP.tB (eCall g_is_way (aCons (bV (eVar 0)) (aNil))))) (sNever) (sNext)
def g_check_way : List D → Out D := defP 1 1 b_check_way
/-- pairs_of(row, way): slots 0 row, 1 way, 2 last, 3 pairs, 4 place, 5 one, 6 other -/
def b_pairs_of : SF := sSeq (sSet 2 (eOp opSub (bV (eB (one bLen) (aCons (bV (eVar 0)) (aNil)))) (bV (eC (.int 1))))) (sSeq (sIf (WP.tB (eOp opEq (bV (eVar 1)) (bV (eC (.str "near"))))) (sRet (eComp [4] (iRange1 (eVar 2)) (WP.gName 4) (tTrue) (eTup (aCons (bV (eVar 4)) (aCons (bV (eOp opAdd (bV (eVar 4)) (bV (eC (.int 1))))) (aNil)))))) (sNext)) (sSeq (sIf (WP.tB (eOp opEq (bV (eVar 1)) (bV (eC (.str "ring"))))) (sRet (eOp opAdd (bV (eComp [4] (iRange1 (eVar 2)) (WP.gName 4) (tTrue) (eTup (aCons (bV (eVar 4)) (aCons (bV (eOp opAdd (bV (eVar 4)) (bV (eC (.int 1))))) (aNil)))))) (bV (eIf (WP.tB (eOp opGt (bV (eVar 2)) (bV (eC (.int 1))))) (eLst (aCons (bV (eTup (aCons (bV (eC (.int 0))) (aCons (bV (eVar 2)) (aNil))))) (aNil))) (eLst (aNil)))))) (sNext)) (sSeq (sIf (WP.tB (eOp opIn (bV (eVar 1)) (bV (eTup (aCons (bV (eC (.str "front"))) (aCons (bV (eC (.str "flip"))) (aNil))))))) (sRet (eComp [4] (iRange2 (eC (.int 1)) (eB (one bLen) (aCons (bV (eVar 0)) (aNil)))) (WP.gName 4) (tTrue) (eTup (aCons (bV (eC (.int 0))) (aCons (bV (eVar 4)) (aNil)))))) (sNext)) (sSeq (sSet 3 (eComp2 [5, 6] [6] (iRange1 (eB (one bLen) (aCons (bV (eVar 0)) (aNil)))) (WP.gName 5) (tTrue) (iRange1 (eB (one bLen) (aCons (bV (eVar 0)) (aNil)))) (WP.gName 6) (WP.tB (eOp opNe (bV (eVar 5)) (bV (eVar 6)))) (eTup (aCons (bV (eVar 5)) (aCons (bV (eVar 6)) (aNil)))))) (sRet (eIf (WP.tB (eOp opEq (bV (eVar 1)) (bV (eC (.str "move"))))) (eVar 3) (eComp [5, 6] (iSeq (eVar 3)) (WP.gTup [WP.gName 5, WP.gName 6]) (WP.tB (eOp opLt (bV (eVar 5)) (bV (eVar 6)))) (eTup (aCons (bV (eVar 5)) (aCons (bV (eVar 6)) (aNil)))))))))))
def g_pairs_of : List D → Out D := defP 7 2 b_pairs_of
/-- shifted(row, one, other): slots 0 row, 1 one, 2 other, 3 left -/
def b_shifted : SF := sSeq (sSet 3 (eLst (aStar (bV (eSl (bV (eVar 0)) (pNo) (pInt (eVar 1)))) (aStar (bV (eSl (bV (eVar 0)) (pInt (eOp opAdd (bV (eVar 1)) (bV (eC (.int 1))))) (pNo))) (aNil))))) (sRet (eTup (aStar (bV (eSl (bV (eVar 3)) (pNo) (pInt (eVar 2)))) (aCons (bV (eOp opIx (bV (eVar 0)) (bV (eVar 1)))) (aStar (bV (eSl (bV (eVar 3)) (pInt (eVar 2)) (pNo))) (aNil))))))
def g_shifted : List D → Out D := defP 4 3 b_shifted
/-- put_in_each(row, one, other): slots 0 row, 1 one, 2 other, 3 found -/
def b_put_in_each : SF := sSeq (sNew 3 .m (eB (one bList) (aCons (bV (eVar 0)) (aNil)))) (sSeq (sAsg (WP.gTup [gAt 3 (eVar 1), gAt 3 (eVar 2)]) (eTup (aCons (bV (eOp opIx (bV (eVar 0)) (bV (eVar 2)))) (aCons (bV (eOp opIx (bV (eVar 0)) (bV (eVar 1)))) (aNil))))) (sRet (eB (one bTuple) (aCons (bS 3) (aNil)))))
def g_put_in_each : List D → Out D := defP 4 3 b_put_in_each
/-- done_by(row, way, pair): slots 0 row, 1 way, 2 pair -/
def b_done_by : SF := sSeq (sIf (WP.tB (eOp opIn (bV (eVar 1)) (bV (eC (.tuple [(.str "stretch"), (.str "flip")]))))) (sNever) (sNext)) (sSeq (sIf (WP.tB (eOp opEq (bV (eVar 1)) (bV (eC (.str "move"))))) (sRet (eCall g_shifted (aCons (bV (eVar 0)) (aCons (bV (eOp opIx (bV (eVar 2)) (bV (eC (.int 0))))) (aCons (bV (eOp opIx (bV (eVar 2)) (bV (eC (.int 1))))) (aNil)))))) (sNext)) (sSeq (sIf (WP.tB (eOp opEq (bV (eVar 1)) (bV (eC (.str "front"))))) (sRet (eCall g_shifted (aCons (bV (eVar 0)) (aCons (bV (eOp opIx (bV (eVar 2)) (bV (eC (.int 1))))) (aCons (bV (eC (.int 0))) (aNil)))))) (sNext)) (sRet (eCall g_put_in_each (aCons (bV (eVar 0)) (aCons (bV (eOp opIx (bV (eVar 2)) (bV (eC (.int 0))))) (aCons (bV (eOp opIx (bV (eVar 2)) (bV (eC (.int 1))))) (aNil))))))))
def g_done_by : List D → Out D := defP 3 3 b_done_by
/-- far_from(row, way): slots 0 row, 1 way, 2 known, 3 line, 4 at, 5 here, 6 pair, 7 other -/
def b_far_from : SF := sSeq (sPar [2, 3, 4] [(.dt, eD1 (eVar 0) (eC (.int 0))), (.m, eLst (aCons (bV (eVar 0)) (aNil))), (.p, eC (.int 0))]) (sSeq (sWhile [5] fuel (WP.tB (eOp opLt (bV (eVar 4)) (bV (eB (one bLen) (aCons (bS 3) (aNil)))))) (sSeq (sPar [5, 4] [(.p, eOp opIx (bS 3) (bV (eVar 4))), (.p, eOp opAdd (bV (eVar 4)) (bV (eC (.int 1))))]) (sFor [6, 7] (iSeq (eCall g_pairs_of (aCons (bV (eVar 5)) (aCons (bV (eVar 1)) (aNil))))) (WP.gName 6) (sSeq (sSet 7 (eCall g_done_by (aCons (bV (eVar 5)) (aCons (bV (eVar 1)) (aCons (bV (eVar 6)) (aNil)))))) (sIf (WP.tB (eOp opHasNot (bV (eVar 7)) (bS 2))) (sSeq (sAsg (gKey 2 (eVar 7)) (eOp opAdd (bV (eOp opAt (bS 2) (bV (eVar 5)))) (bV (eC (.int 1))))) (sDrop (eAppend 3 (eVar 7)))) (sNext)))))) (sRet (eFrz 2)))
def g_far_from : List D → Out D := defP 8 2 b_far_from
/-- spread_by(row, way): slots 0 row, 1 way, 2 told, 3 other, 4 far -/
def b_spread_by : SF := sSeq (sSet 2 (eComp [3, 4] (iItemsT (eCall g_far_from (aCons (bV (eVar 0)) (aCons (bV (eVar 1)) (aNil))))) (WP.gTup [WP.gName 3, WP.gName 4]) (tTrue) (eVar 4))) (sRet (eB (one bTuple) (aCons (bV (eComp [4] (iRange1 (eOp opAdd (bV (eB (one bMax) (aCons (bV (eVar 2)) (aNil)))) (bV (eC (.int 1))))) (WP.gName 4) (tTrue) (eSeqM mCount (eVar 2) (aCons (bV (eVar 4)) (aNil))))) (aNil))))
def g_spread_by : List D → Out D := defP 5 2 b_spread_by
/-- how_far(kinds, row, way): slots 0 kinds, 1 row, 2 way -/
def b_how_far : SF := sSeq (sDrop (eCall g_check_rowed (aCons (bV (eVar 0)) (aCons (bV (eVar 1)) (aNil))))) (sSeq (sDrop (eCall g_check_way (aCons (bV (eVar 2)) (aNil)))) (sRet (eCall g_spread_by (aCons (bV (eVar 1)) (aCons (bV (eVar 2)) (aNil))))))
def g_how_far : List D → Out D := defP 3 3 b_how_far
/-- is_tuple_of(value, many): slots 0 value, 1 many -/
def b_is_tuple_of : SF := sRet (eAnd (eIsa "tuple" (bV (eVar 0))) (eOp opEq (bV (eB (one bLen) (aCons (bV (eVar 0)) (aNil)))) (bV (eVar 1))))
def g_is_tuple_of : List D → Out D := defP 2 2 b_is_tuple_of
/-- is_amounts(kinds, value): slots 0 kinds, 1 value, 2 own -/
def b_is_amounts : SF := sSeq (sIf (WP.tOr (WP.tNot (WP.tB (eCall g_is_tuple_of (aCons (bV (eVar 1)) (aCons (bV (eVar 0)) (aNil)))))) (WP.tNot (WP.tB (eB (one bAll) (aCons (bV (eComp [2] (iSeq (eVar 1)) (WP.gName 2) (tTrue) (eCall g_is_between (aCons (bV (eVar 2)) (aCons (bV (eC (.int 0))) (aCons (bV (eC (.int 7))) (aNil))))))) (aNil)))))) (sRet (eC (.bool false))) (sNext)) (sRet (eChain opLe opLe (bV (eC (.int 1))) (bV (eB (one bSum) (aCons (bV (eVar 1)) (aNil)))) (bV (eC (.int 7)))))
def g_is_amounts : List D → Out D := defP 3 2 b_is_amounts
/-- check_amounts(kinds, value): slots 0 kinds, 1 value -/
def b_check_amounts : SF := sIf (WP.tNot (WP.tB (eCall g_is_amounts (aCons (bV (eVar 0)) (aCons (bV (eVar 1)) (aNil)))))) (sNever) (sNext)
def g_check_amounts : List D → Out D := defP 2 2 b_check_amounts
/-- check_amounted(kinds, amounts): slots 0 kinds, 1 amounts -/
def b_check_amounted : SF := sSeq (sDrop (eCall g_check_kinds (aCons (bV (eVar 0)) (aNil)))) (sDrop (eCall g_check_amounts (aCons (bV (eVar 0)) (aCons (bV (eVar 1)) (aNil)))))
def g_check_amounted : List D → Out D := defP 2 2 b_check_amounted
/-- rows_by(kinds, amounts): slots 0 kinds, 1 amounts, 2 found, 3 turn, 4 row, 5 kind -/
def b_rows_by : SF := sSeq (sSet 2 (eLst (aCons (bV (eTup (aNil))) (aNil)))) (sSeq (sFor [3] (iRange1 (eB (one bSum) (aCons (bV (eVar 1)) (aNil)))) (WP.gName 3) (sSet 2 (eComp2 [4, 5] [5] (iSeq (eVar 2)) (WP.gName 4) (tTrue) (iRange1 (eVar 0)) (WP.gName 5) (WP.tB (eOp opLt (bV (eSeqM mCount (eVar 4) (aCons (bV (eVar 5)) (aNil)))) (bV (eOp opIx (bV (eVar 1)) (bV (eVar 5)))))) (eTup (aStar (bV (eVar 4)) (aCons (bV (eVar 5)) (aNil))))))) (sRet (eVar 2)))
def g_rows_by : List D → Out D := defP 6 2 b_rows_by
/-- all_rows(kinds, amounts): slots 0 kinds, 1 amounts -/
def b_all_rows : SF := sSeq (sDrop (eCall g_check_amounted (aCons (bV (eVar 0)) (aCons (bV (eVar 1)) (aNil))))) (sRet (eB (one bTuple) (aCons (bV (eCall g_rows_by (aCons (bV (eVar 0)) (aCons (bV (eVar 1)) (aNil))))) (aNil))))
def g_all_rows : List D → Out D := defP 2 2 b_all_rows
/-- _law_amounts(kinds, row): slots 0 kinds, 1 row, 2 kind -/
def b__law_amounts : SF := sRet (eB (one bTuple) (aCons (bV (eComp [2] (iRange1 (eVar 0)) (WP.gName 2) (tTrue) (eSeqM mCount (eVar 1) (aCons (bV (eVar 2)) (aNil))))) (aNil)))
def g__law_amounts : List D → Out D := defP 3 2 b__law_amounts
/-- _law_all_rows(row): slots 0 row, 1 found, 2 place, 3 longer, 4 some, 5 kind -/
def b__law_all_rows : SF := sSeq (sSet 1 (eLst (aCons (bV (eTup (aNil))) (aNil)))) (sSeq (sFor [2, 3] (iRange1 (eB (one bLen) (aCons (bV (eVar 0)) (aNil)))) (WP.gName 2) (sSeq (sSet 3 (eLst (aNil))) (sSeq (sFor [4] (iSeq (eVar 1)) (WP.gName 4) (sSet 3 (eOp opAdd (bV (eVar 3)) (bV (eComp [5] (iSeq (eSortSet (eVar 0))) (WP.gName 5) (WP.tB (eOp opLt (bV (eSeqM mCount (eVar 4) (aCons (bV (eVar 5)) (aNil)))) (bV (eSeqM mCount (eVar 0) (aCons (bV (eVar 5)) (aNil)))))) (eOp opAdd (bV (eVar 4)) (bV (eTup (aCons (bV (eVar 5)) (aNil)))))))))) (sSet 1 (eVar 3))))) (sRet (eVar 1)))
def g__law_all_rows : List D → Out D := defP 6 1 b__law_all_rows
/-- _law_mixed(bag, row): slots 0 bag, 1 row, 2 left, 3 found -/
def b__law_mixed : SF := sSeq (sPar [2, 3] [(.m, eB (one bList) (aCons (bV (eVar 1)) (aNil))), (.m, eLst (aNil))]) (sSeq (sWhile [] fuel (WP.tB (eOp opNe (bS 2) (bV (eLst (aNil))))) (sDrop (eAppend 3 (ePopK 2 (eCallM g__law_take 0 (aCons (bV (eB (one bLen) (aCons (bS 2) (aNil)))) (aNil))))))) (sRet (eB (one bTuple) (aCons (bS 3) (aNil)))))
def g__law_mixed : List D → List D → Out (D × List D) := defM 4 2 b__law_mixed
/-- _law_right(bag): slots 0 bag, 1 kinds, 2 row, 3 way, 4 due, 5 rows -/
def b__law_right : SF := sSeq (sAsg (WP.gTup [WP.gName 1, WP.gName 2]) (eCallM g__law_row 0 (aCons (bV (eC (.int 5))) (aNil)))) (sSeq (sSet 3 (eCallM g__law_way 0 (aNil))) (sSeq (sSet 4 (eCall g__law_numbers (aCons (bV (eCall g__law_off (aCons (bV (eVar 2)) (aCons (bV (eVar 3)) (aNil))))) (aNil)))) (sSeq (sIf (WP.tB (eOp opNe (bV (eB (one bRep) (aCons (bV (eLst (aCons (bV (eCall g_how_far (aCons (bV (eVar 1)) (aCons (bV (eVar 2)) (aCons (bV (eVar 3)) (aNil)))))) (aCons (bV (eCallK g_how_far [2, 1, 0] 3 (aCons (bV (eVar 3)) (aCons (bV (eVar 2)) (aCons (bV (eVar 1)) (aNil)))))) (aNil))))) (aNil)))) (bV (eB (one bRep) (aCons (bV (eLst (aCons (bV (eVar 4)) (aCons (bV (eVar 4)) (aNil))))) (aNil)))))) (sRet (eC (.bool false))) (sNext)) (sSeq (sSet 5 (eCall g_all_rows (aCons (bV (eVar 1)) (aCons (bV (eCall g__law_amounts (aCons (bV (eVar 1)) (aCons (bV (eVar 2)) (aNil))))) (aNil))))) (sSeq (sIf (WP.tOr (WP.tB (eOp opNe (bV (eB (one bList) (aCons (bV (eVar 5)) (aNil)))) (bV (eCall g__law_all_rows (aCons (bV (eVar 2)) (aNil)))))) (WP.tOr (WP.tB (eOp opNe (bV (eB (one bSum) (aCons (bV (eVar 4)) (aNil)))) (bV (eB (one bLen) (aCons (bV (eVar 5)) (aNil)))))) (WP.tB (eOp opNe (bV (eOp opIx (bV (eVar 4)) (bV (eC (.int 0))))) (bV (eC (.int 1))))))) (sRet (eC (.bool false))) (sNext)) (sRet (eOp opEq (bV (eCall g_how_far (aCons (bV (eVar 1)) (aCons (bV (eVar 2)) (aCons (bV (eC (.str "any"))) (aNil)))))) (bV (eCall g_how_far (aCons (bV (eVar 1)) (aCons (bV (eCallM g__law_mixed 0 (aCons (bV (eVar 2)) (aNil)))) (aCons (bV (eC (.str "any"))) (aNil)))))))))))))
def g__law_right : List D → List D → Out (D × List D) := defM 6 1 b__law_right
/-- law(script): slots 0 script, 1 lap, 2 bag, 3 turn -/
def b_law : SF := sSeq (sFor [1, 2] (iRange1 (eB (two bMax2) (aCons (bV (eC (.int 2))) (aCons (bV (eB (two bMin2) (aCons (bV (eB (one bLen) (aCons (bV (eVar 0)) (aNil)))) (aCons (bV (eC (.int 3))) (aNil))))) (aNil))))) (WP.gName 1) (sSeq (sNew 2 .m (eCall g__law_bag (aCons (bV (eVar 0)) (aCons (bV (eVar 1)) (aNil))))) (sIf (WP.tNot (WP.tB (eB (one bAll) (aCons (bV (eComp [3] (iRange1 (eC (.int 8))) (WP.gName 3) (tTrue) (eCallM g__law_right 2 (aNil)))) (aNil))))) (sRet (eC (.bool false))) (sNext)))) (sRet (eC (.bool true)))
def g_law : List D → Out D := defP 4 1 b_law
end WP
end
section
set_option Elab.async false
set_option linter.all false
set_option maxRecDepth 100000
set_option maxHeartbeats 0
namespace WP
open PySem PySem.Spec PyProof.Rows L2
def top (i : Nat) : Stmt := PySem.Challenge.pw_wrongplaces_k58_whole_spreads.main.body.getD i (.Pass ⟨0, 0, 0, 0⟩)
def N__law_bag : List Str := ["script", "lap", "stirred", "cell", "own"]
theorem sc__law_bag : FnScope N__law_bag ["script", "lap"] (defScope (top 48)) := ⟨rfl, rfl, rfl, by decide +kernel, rfl, by decide +kernel, by decide +kernel⟩
def N__law_take : List Str := ["bag", "top", "digit"]
theorem sc__law_take : FnScope N__law_take ["bag", "top"] (defScope (top 49)) := ⟨rfl, rfl, rfl, by decide +kernel, rfl, by decide +kernel, by decide +kernel⟩
def N__law_row : List Str := ["bag", "most", "kinds", "place"]
theorem sc__law_row : FnScope N__law_row ["bag", "most"] (defScope (top 51)) := ⟨rfl, rfl, rfl, by decide +kernel, rfl, by decide +kernel, by decide +kernel⟩
def N__law_pull : List Str := ["bag", "some"]
theorem sc__law_pull : FnScope N__law_pull ["bag", "some"] (defScope (top 50)) := ⟨rfl, rfl, rfl, by decide +kernel, rfl, by decide +kernel, by decide +kernel⟩
def N__law_way : List Str := ["bag"]
theorem sc__law_way : FnScope N__law_way ["bag"] (defScope (top 57)) := ⟨rfl, rfl, rfl, by decide +kernel, rfl, by decide +kernel, by decide +kernel⟩
def N__law_numbers : List Str := ["off", "far", "row", "own"]
theorem sc__law_numbers : FnScope N__law_numbers ["off"] (defScope (top 58)) := ⟨rfl, rfl, rfl, by decide +kernel, rfl, by decide +kernel, by decide +kernel⟩
def N__law_steps : List Str := ["row", "way", "found", "wide", "i", "j", "rest"]
theorem sc__law_steps : FnScope N__law_steps ["row", "way"] (defScope (top 55)) := ⟨rfl, rfl, rfl, by decide +kernel, rfl, by decide +kernel, by decide +kernel⟩
def N__law_off : List Str := ["row", "way", "found", "front", "later", "own", "each"]
theorem sc__law_off : FnScope N__law_off ["row", "way"] (defScope (top 56)) := ⟨rfl, rfl, rfl, by decide +kernel, rfl, by decide +kernel, by decide +kernel⟩
def N_is_whole : List Str := ["value"]
theorem sc_is_whole : FnScope N_is_whole ["value"] (defScope (top 7)) := ⟨rfl, rfl, rfl, by decide +kernel, rfl, by decide +kernel, by decide +kernel⟩
def N_is_between : List Str := ["value", "least", "most"]
theorem sc_is_between : FnScope N_is_between ["value", "least", "most"] (defScope (top 8)) := ⟨rfl, rfl, rfl, by decide +kernel, rfl, by decide +kernel, by decide +kernel⟩
def N_is_kinds : List Str := ["value"]
theorem sc_is_kinds : FnScope N_is_kinds ["value"] (defScope (top 15)) := ⟨rfl, rfl, rfl, by decide +kernel, rfl, by decide +kernel, by decide +kernel⟩
def N_check_kinds : List Str := ["kinds"]
theorem sc_check_kinds : FnScope N_check_kinds ["kinds"] (defScope (top 16)) := ⟨rfl, rfl, rfl, by decide +kernel, rfl, by decide +kernel, by decide +kernel⟩
def N_is_kind : List Str := ["kinds", "value"]
theorem sc_is_kind : FnScope N_is_kind ["kinds", "value"] (defScope (top 17)) := ⟨rfl, rfl, rfl, by decide +kernel, rfl, by decide +kernel, by decide +kernel⟩
def N_is_row : List Str := ["kinds", "value", "own"]
theorem sc_is_row : FnScope N_is_row ["kinds", "value"] (defScope (top 18)) := ⟨rfl, rfl, rfl, by decide +kernel, rfl, by decide +kernel, by decide +kernel⟩
def N_check_row : List Str := ["kinds", "value"]
theorem sc_check_row : FnScope N_check_row ["kinds", "value"] (defScope (top 19)) := ⟨rfl, rfl, rfl, by decide +kernel, rfl, by decide +kernel, by decide +kernel⟩
def N_check_rowed : List Str := ["kinds", "row"]
theorem sc_check_rowed : FnScope N_check_rowed ["kinds", "row"] (defScope (top 20)) := ⟨rfl, rfl, rfl, by decide +kernel, rfl, by decide +kernel, by decide +kernel⟩
def N_is_string : List Str := ["value"]
theorem sc_is_string : FnScope N_is_string ["value"] (defScope (top 9)) := ⟨rfl, rfl, rfl, by decide +kernel, rfl, by decide +kernel, by decide +kernel⟩
def N_is_way : List Str := ["value"]
theorem sc_is_way : FnScope N_is_way ["value"] (defScope (top 44)) := ⟨rfl, rfl, rfl, by decide +kernel, rfl, by decide +kernel, by decide +kernel⟩
def N_check_way : List Str := ["way"]
theorem sc_check_way : FnScope N_check_way ["way"] (defScope (top 45)) := ⟨rfl, rfl, rfl, by decide +kernel, rfl, by decide +kernel, by decide +kernel⟩
def N_pairs_of : List Str := ["row", "way", "last", "pairs", "place", "one", "other"]
theorem sc_pairs_of : FnScope N_pairs_of ["row", "way"] (defScope (top 39)) := ⟨rfl, rfl, rfl, by decide +kernel, rfl, by decide +kernel, by decide +kernel⟩
def N_shifted : List Str := ["row", "one", "other", "left"]
theorem sc_shifted : FnScope N_shifted ["row", "one", "other"] (defScope (top 26)) := ⟨rfl, rfl, rfl, by decide +kernel, rfl, by decide +kernel, by decide +kernel⟩
def N_put_in_each : List Str := ["row", "one", "other", "found"]
theorem sc_put_in_each : FnScope N_put_in_each ["row", "one", "other"] (defScope (top 25)) := ⟨rfl, rfl, rfl, by decide +kernel, rfl, by decide +kernel, by decide +kernel⟩
def N_done_by : List Str := ["row", "way", "pair"]
theorem sc_done_by : FnScope N_done_by ["row", "way", "pair"] (defScope (top 40)) := ⟨rfl, rfl, rfl, by decide +kernel, rfl, by decide +kernel, by decide +kernel⟩
def N_far_from : List Str := ["row", "way", "known", "line", "at", "here", "pair", "other"]
theorem sc_far_from : FnScope N_far_from ["row", "way"] (defScope (top 41)) := ⟨rfl, rfl, rfl, by decide +kernel, rfl, by decide +kernel, by decide +kernel⟩
def N_spread_by : List Str := ["row", "way", "told", "other", "far"]
theorem sc_spread_by : FnScope N_spread_by ["row", "way"] (defScope (top 42)) := ⟨rfl, rfl, rfl, by decide +kernel, rfl, by decide +kernel, by decide +kernel⟩
def N_how_far : List Str := ["kinds", "row", "way"]
theorem sc_how_far : FnScope N_how_far ["kinds", "row", "way"] (defScope (top 46)) := ⟨rfl, rfl, rfl, by decide +kernel, rfl, by decide +kernel, by decide +kernel⟩
def N_is_tuple_of : List Str := ["value", "many"]
theorem sc_is_tuple_of : FnScope N_is_tuple_of ["value", "many"] (defScope (top 10)) := ⟨rfl, rfl, rfl, by decide +kernel, rfl, by decide +kernel, by decide +kernel⟩
def N_is_amounts : List Str := ["kinds", "value", "own"]
theorem sc_is_amounts : FnScope N_is_amounts ["kinds", "value"] (defScope (top 21)) := ⟨rfl, rfl, rfl, by decide +kernel, rfl, by decide +kernel, by decide +kernel⟩
def N_check_amounts : List Str := ["kinds", "value"]
theorem sc_check_amounts : FnScope N_check_amounts ["kinds", "value"] (defScope (top 22)) := ⟨rfl, rfl, rfl, by decide +kernel, rfl, by decide +kernel, by decide +kernel⟩
def N_check_amounted : List Str := ["kinds", "amounts"]
theorem sc_check_amounted : FnScope N_check_amounted ["kinds", "amounts"] (defScope (top 23)) := ⟨rfl, rfl, rfl, by decide +kernel, rfl, by decide +kernel, by decide +kernel⟩
def N_rows_by : List Str := ["kinds", "amounts", "found", "turn", "row", "kind"]
theorem sc_rows_by : FnScope N_rows_by ["kinds", "amounts"] (defScope (top 24)) := ⟨rfl, rfl, rfl, by decide +kernel, rfl, by decide +kernel, by decide +kernel⟩
def N_all_rows : List Str := ["kinds", "amounts"]
theorem sc_all_rows : FnScope N_all_rows ["kinds", "amounts"] (defScope (top 27)) := ⟨rfl, rfl, rfl, by decide +kernel, rfl, by decide +kernel, by decide +kernel⟩
def N__law_amounts : List Str := ["kinds", "row", "kind"]
theorem sc__law_amounts : FnScope N__law_amounts ["kinds", "row"] (defScope (top 53)) := ⟨rfl, rfl, rfl, by decide +kernel, rfl, by decide +kernel, by decide +kernel⟩
def N__law_all_rows : List Str := ["row", "found", "place", "longer", "some", "kind"]
theorem sc__law_all_rows : FnScope N__law_all_rows ["row"] (defScope (top 54)) := ⟨rfl, rfl, rfl, by decide +kernel, rfl, by decide +kernel, by decide +kernel⟩
def N__law_mixed : List Str := ["bag", "row", "left", "found"]
theorem sc__law_mixed : FnScope N__law_mixed ["bag", "row"] (defScope (top 52)) := ⟨rfl, rfl, rfl, by decide +kernel, rfl, by decide +kernel, by decide +kernel⟩
def N__law_right : List Str := ["bag", "kinds", "row", "way", "due", "rows"]
theorem sc__law_right : FnScope N__law_right ["bag"] (defScope (top 59)) := ⟨rfl, rfl, rfl, by decide +kernel, rfl, by decide +kernel, by decide +kernel⟩
def N_law : List Str := ["script", "lap", "bag", "turn"]
theorem sc_law : FnScope N_law ["script"] (defScope (top 60)) := ⟨rfl, rfl, rfl, by decide +kernel, rfl, by decide +kernel, by decide +kernel⟩
section
variable {P : Program} {w : World} {K : PySem.W.Frag} {mg : Str → Option Value} {base : Heap} {f : Addr} {fd : FuncData}
theorem ok__law_bag (F : FunD K "_law_bag" "_law_bag" (defArgs (top 48)) (defBody (top 48)) (defScope (top 48)) [] [] f fd) (g_abs : mg "abs" = none) (g_int : mg "int" = none) (g_len : mg "len" = none) : FnG P w K mg base CX0 1 f fd ["script", "lap"] (spN ⟨P, w, K⟩ .m g__law_bag) := by
  refine ok_new (kd := .m) (by decide) (k := 0) (fs := b__law_bag) F sc__law_bag rfl fun cdv A outer s H Fx hr hF hf => ?_
  have nd := sc__law_bag.nd
  have U := un64 hr
  exact dss_cons (ds_set (i := 2) nd rfl (loc_of rfl) (de_op op_addD (db_val (de_int)) (db_val (de_op op_mulD (db_val (de_int)) (db_val (de_var (i := 1) rfl (vis_of rfl)))))))
    (dss_cons (ds_for (fg := [3]) PassesOwn.never rfl (di_seq (de_slice (db_val (de_var (i := 0) rfl (vis_of rfl))) (do_no) (do_some (de_int)))) (dg_name (i := 3) nd rfl (loc_of rfl)) (dss_one (ds_set (i := 2) nd rfl (loc_of rfl) (de_op op_modD (db_val (de_callTy ck_int rfl g_int boot_int (da_cons (db_val (de_op op_addD (db_val (de_op op_addD (db_val (de_op op_mulD (db_val (de_var (i := 2) rfl (vis_of rfl))) (db_val (de_int)))) (db_val (de_op op_modD (db_val (de_callTy ck_int rfl g_int boot_int (da_cons (db_val (de_var (i := 3) rfl (vis_of rfl))) (da_nil)))) (db_val (de_int)))))) (db_val (de_int)))) (da_nil)))) (db_val (de_int))))))
    (dss_cons (ds_set (i := 4) nd rfl (loc_of rfl) (de_if (dt_cmp (op_ltD U) (db_val (de_var (i := 1) rfl (vis_of rfl))) (db_val (de_callB ck_len rfl g_len boot_len (da_cons (db_val (de_var (i := 0) rfl (vis_of rfl))) (da_nil)))) rfl) (de_callTy ck_int rfl g_int boot_int (da_cons (db_val (de_ix ix_seqD (db_val (de_var (i := 0) rfl (vis_of rfl))) (db_val (de_var (i := 1) rfl (vis_of rfl))) (fun _ _ => rfl))) (da_nil))) (de_int)))
    (dss_cons (ds_set (i := 2) nd rfl (loc_of rfl) (de_op op_modD (db_val (de_callTy ck_int rfl g_int boot_int (da_cons (db_val (de_op op_addD (db_val (de_op op_addD (db_val (de_op op_mulD (db_val (de_var (i := 2) rfl (vis_of rfl))) (db_val (de_int)))) (db_val (de_op op_mulD (db_val (de_op op_modD (db_val (de_callTy ck_int rfl g_int boot_int (da_cons (db_val (de_var (i := 4) rfl (vis_of rfl))) (da_nil)))) (db_val (de_int)))) (db_val (de_int)))))) (db_val (de_int)))) (da_nil)))) (db_val (de_int))))
    (dss_one (ds_retNew hf (by decide) (dn_lst (da_cons (db_val (de_if (dt_w (dw_or (dt_cmp (op_ltD U) (db_val (de_var (i := 4) rfl (vis_of rfl))) (db_val (de_int)) rfl) (dw_or1 (dt_cmp (op_geD U) (db_val (de_var (i := 4) rfl (vis_of rfl))) (db_val (de_op op_powD (db_val (de_int)) (db_val (de_int)))) rfl)))) (de_callB ck_abs rfl g_abs boot_abs (da_cons (db_val (de_var (i := 4) rfl (vis_of rfl))) (da_nil))) (de_int))) (da_cons (db_val (de_var (i := 2) rfl (vis_of rfl))) (da_cons (db_val (de_int)) (da_nil))))))))))
theorem ok__law_take (F : FunD K "_law_take" "_law_take" (defArgs (top 49)) (defBody (top 49)) (defScope (top 49)) [] [] f fd) (g_divmod : mg "divmod" = none) (g_int : mg "int" = none) : FnG P w K mg base CX0 1 f fd ["bag", "top"] (spM ⟨P, w, K⟩ g__law_take) := by
  refine ok_mut (k := 0) (fs := b__law_take) F sc__law_take rfl fun cdv A outer s H Fx hr hF hf => ?_
  have nd := sc__law_take.nd
  have U := un64 hr
  exact dss_cons (ds_if (dt_cmp (op_gtD U) (db_val (de_ix ix_seqD (db_slot (i := 0) rfl (vis_of rfl)) (db_val (de_int)) (fun _ _ => rfl))) (db_val (de_int)) rfl) (dss_cons (ds_asg (de_callB ck_divmod rfl g_divmod boot_divmod (da_cons (db_val (de_ix ix_seqD (db_slot (i := 0) rfl (vis_of rfl)) (db_val (de_int)) (fun _ _ => rfl))) (da_cons (db_val (de_var (i := 1) rfl (vis_of rfl))) (da_nil)))) (dg_tup rfl (dgs_cons (dg_at (i := 0) dq_stp rfl (vis_of rfl) (de_int)) (dgs_cons (dg_name (i := 2) nd rfl (loc_of rfl)) (dgs_nil)))))
    (dss_one (ds_ret hf (de_var (i := 2) rfl (vis_of rfl))))) (dss_nil))
    (dss_cons (ds_asg (de_op op_addD (db_val (de_ix ix_seqD (db_slot (i := 0) rfl (vis_of rfl)) (db_val (de_int)) (fun _ _ => rfl))) (db_val (de_int))) (dg_at (i := 0) dq_stp rfl (vis_of rfl) (de_int)))
    (dss_cons (ds_asg (de_op op_modD (db_val (de_callTy ck_int rfl g_int boot_int (da_cons (db_val (de_op op_addD (db_val (de_op op_addD (db_val (de_op op_mulD (db_val (de_ix ix_seqD (db_slot (i := 0) rfl (vis_of rfl)) (db_val (de_int)) (fun _ _ => rfl))) (db_val (de_int)))) (db_val (de_op op_mulD (db_val (de_int)) (db_val (de_ix ix_seqD (db_slot (i := 0) rfl (vis_of rfl)) (db_val (de_int)) (fun _ _ => rfl))))))) (db_val (de_int)))) (da_nil)))) (db_val (de_int))) (dg_at (i := 0) dq_stp rfl (vis_of rfl) (de_int)))
    (dss_one (ds_ret hf (de_op op_modD (db_val (de_callTy ck_int rfl g_int boot_int (da_cons (db_val (de_op op_divD (db_val (de_ix ix_seqD (db_slot (i := 0) rfl (vis_of rfl)) (db_val (de_int)) (fun _ _ => rfl))) (db_val (de_int)))) (da_nil)))) (db_val (de_var (i := 1) rfl (vis_of rfl))))))))
theorem ok__law_row (F : FunD K "_law_row" "_law_row" (defArgs (top 51)) (defBody (top 51)) (defScope (top 51)) [] [] f fd) (C__law_take : CalB P w K mg base CX0 1 "_law_take" (spM ⟨P, w, K⟩ g__law_take)) (g_range : mg "range" = none) (g_tuple : mg "tuple" = none) : FnG P w K mg base CX0 2 f fd ["bag", "most"] (spM ⟨P, w, K⟩ g__law_row) := by
  refine ok_mut (k := 1) (fs := b__law_row) F sc__law_row rfl fun cdv A outer s H Fx hr hF hf => ?_
  have nd := sc__law_row.nd
  have U := un64 hr
  exact dss_cons (ds_set (i := 2) nd rfl (loc_of rfl) (de_op op_addD (db_val (de_int)) (db_val (de_callM (i := 0) C__law_take hr (by decide) pass0 hF rfl rfl (vis_of rfl) (da_cons (db_val (de_int)) (da_nil))))))
    (dss_one (ds_ret hf (de_tup (da_cons (db_val (de_var (i := 2) rfl (vis_of rfl))) (da_cons (db_val (de_callTy ck_tuple rfl g_tuple boot_tuple (da_cons (db_val (de_new (dn_comp (own := [("place", 3)]) rfl nd (di_range1 rfl g_range (de_op op_addD (db_val (de_int)) (db_val (de_callM (i := 0) C__law_take hr (by decide) pass0 hF rfl rfl (vis_of rfl) (da_cons (db_val (de_var (i := 1) rfl (vis_of rfl))) (da_nil)))))) (blkOk_of rfl) (fun _ _ _ _ _ _ => dg_name (i := 3) nd rfl (loc_of rfl)) (fun _ _ _ _ _ _ => dts_nil) (fun _ _ _ _ _ _ => de_callM (i := 0) C__law_take hr (by decide) pass0 nor_inn rfl rfl (vis_of rfl) (da_cons (db_val (de_var (i := 2) rfl (vis_of rfl))) (da_nil)))))) (da_nil)))) (da_nil))))))
theorem ok__law_pull (F : FunD K "_law_pull" "_law_pull" (defArgs (top 50)) (defBody (top 50)) (defScope (top 50)) [] [] f fd) (C__law_take : CalB P w K mg base CX0 1 "_law_take" (spM ⟨P, w, K⟩ g__law_take)) (g_len : mg "len" = none) : FnG P w K mg base CX0 2 f fd ["bag", "some"] (spM ⟨P, w, K⟩ g__law_pull) := by
  refine ok_mut (k := 1) (fs := b__law_pull) F sc__law_pull rfl fun cdv A outer s H Fx hr hF hf => ?_
  have nd := sc__law_pull.nd
  have U := un64 hr
  exact dss_one (ds_ret hf (de_ix ix_seqD (db_val (de_var (i := 1) rfl (vis_of rfl))) (db_val (de_callM (i := 0) C__law_take hr (by decide) pass0 hF rfl rfl (vis_of rfl) (da_cons (db_val (de_callB ck_len rfl g_len boot_len (da_cons (db_val (de_var (i := 1) rfl (vis_of rfl))) (da_nil)))) (da_nil)))) (fun _ _ => rfl)))
theorem ok__law_way (F : FunD K "_law_way" "_law_way" (defArgs (top 57)) (defBody (top 57)) (defScope (top 57)) [] [] f fd) (C__law_pull : CalB P w K mg base CX0 2 "_law_pull" (spM ⟨P, w, K⟩ g__law_pull)) : FnG P w K mg base CX0 3 f fd ["bag"] (spM ⟨P, w, K⟩ g__law_way) := by
  refine ok_mut (k := 2) (fs := b__law_way) F sc__law_way rfl fun cdv A outer s H Fx hr hF hf => ?_
  have nd := sc__law_way.nd
  have U := un64 hr
  exact dss_one (ds_ret hf (de_callM (i := 0) C__law_pull hr (by decide) pass0 hF rfl rfl (vis_of rfl) (da_cons (db_val (de_new (dn_lst (da_cons (db_val (de_str)) (da_cons (db_val (de_str)) (da_cons (db_val (de_str)) (da_cons (db_val (de_str)) (da_nil)))))))) (da_nil))))
theorem ok__law_numbers (F : FunD K "_law_numbers" "_law_numbers" (defArgs (top 58)) (defBody (top 58)) (defScope (top 58)) [] [] f fd) (g_max : mg "max" = none) (g_range : mg "range" = none) (g_tuple : mg "tuple" = none) : FnG P w K mg base CX0 1 f fd ["off"] (spP ⟨P, w, K⟩ g__law_numbers) := by
  refine ok_pure (k := 0) (fs := b__law_numbers) F sc__law_numbers rfl fun cdv A outer s H Fx hr hF hf => ?_
  have nd := sc__law_numbers.nd
  have U := un64 hr
  exact dss_cons (ds_set (i := 1) nd rfl (loc_of rfl) (de_new (dn_comp (own := [("row", 2)]) rfl nd (di_keys (de_var (i := 0) rfl (vis_of rfl))) (blkOk_of rfl) (fun _ _ _ _ _ _ => dg_name (i := 2) nd rfl (loc_of rfl)) (fun _ _ _ _ _ _ => dts_nil) (fun _ _ _ _ _ _ => de_ix (ix_atD U) (db_val (de_var (i := 0) rfl (vis_of rfl))) (db_val (de_var (i := 2) rfl (vis_of rfl))) (fun _ _ => rfl)))))
    (dss_one (ds_ret hf (de_callTy ck_tuple rfl g_tuple boot_tuple (da_cons (db_val (de_new (dn_comp (own := [("own", 3)]) rfl nd (di_range1 rfl g_range (de_op op_addD (db_val (de_callB (ck_max rfl U) rfl g_max boot_max (da_cons (db_val (de_var (i := 1) rfl (vis_of rfl))) (da_nil)))) (db_val (de_int)))) (blkOk_of rfl) (fun _ _ _ _ _ _ => dg_name (i := 3) nd rfl (loc_of rfl)) (fun _ _ _ _ _ _ => dts_nil) (fun _ _ _ _ _ _ => de_count U (de_var (i := 1) rfl (vis_of rfl)) (da_cons (db_val (de_var (i := 3) rfl (vis_of rfl))) (da_nil)))))) (da_nil)))))
theorem ok__law_steps (F : FunD K "_law_steps" "_law_steps" (defArgs (top 55)) (defBody (top 55)) (defScope (top 55)) [] [] f fd) (g_len : mg "len" = none) (g_range : mg "range" = none) : FnG P w K mg base CX0 1 f fd ["row", "way"] (spP ⟨P, w, K⟩ g__law_steps) := by
  refine ok_pure (k := 0) (fs := b__law_steps) F sc__law_steps rfl fun cdv A outer s H Fx hr hF hf => ?_
  have nd := sc__law_steps.nd
  have U := un64 hr
  exact dss_cons (ds_par2 (i := 2) (j := 3) rfl nd rfl rfl (by decide) rfl rfl (dp_cons (DKd.n (fun _ => dn_lst (da_nil))) (fun _ => dp_cons (DKd.p (fun _ => de_callB ck_len rfl g_len boot_len (da_cons (db_val (de_var (i := 0) rfl (vis_of rfl))) (da_nil)))) (fun _ => dp_nil))) rfl)
    (dss_cons (ds_for (fg := [4]) PassesOwn.never rfl (di_range1 rfl g_range (de_var (i := 3) rfl (vis_of rfl))) (dg_name (i := 4) nd rfl (loc_of rfl)) (dss_one (ds_for (fg := [5]) PassesOwn.never rfl (di_range1 rfl g_range (de_var (i := 3) rfl (vis_of rfl))) (dg_name (i := 5) nd rfl (loc_of rfl)) (dss_one (ds_if (dt_w (dw_or (dt_cmp (op_eqD2 U) (db_val (de_var (i := 1) rfl (vis_of rfl))) (db_val (de_str)) rfl) (dw_or1 (dt_w (dw_and (dt_cmp (op_eqD2 U) (db_val (de_var (i := 1) rfl (vis_of rfl))) (db_val (de_str)) rfl) (dw_and1 (dt_cmp (op_eqD2 U) (db_val (de_var (i := 5) rfl (vis_of rfl))) (db_val (de_int)) rfl))))))) (dss_cons (ds_set (i := 6) nd rfl (loc_of rfl) (de_op op_addD (db_val (de_slice (db_val (de_var (i := 0) rfl (vis_of rfl))) (do_no) (do_some (de_var (i := 4) rfl (vis_of rfl))))) (db_val (de_slice (db_val (de_var (i := 0) rfl (vis_of rfl))) (do_some (de_op op_addD (db_val (de_var (i := 4) rfl (vis_of rfl))) (db_val (de_int)))) (do_no)))))
    (dss_one (ds_expr (de_append (i := 2) rfl (vis_of rfl) (de_op op_addD (db_val (de_op op_addD (db_val (de_slice (db_val (de_var (i := 6) rfl (vis_of rfl))) (do_no) (do_some (de_var (i := 5) rfl (vis_of rfl))))) (db_val (de_tup (da_cons (db_val (de_ix ix_seqD (db_val (de_var (i := 0) rfl (vis_of rfl))) (db_val (de_var (i := 4) rfl (vis_of rfl))) (fun _ _ => rfl))) (da_nil)))))) (db_val (de_slice (db_val (de_var (i := 6) rfl (vis_of rfl))) (do_some (de_var (i := 5) rfl (vis_of rfl))) (do_no)))))))) (dss_one (ds_if (dt_w (dw_and (dt_cmp (op_ltD U) (db_val (de_var (i := 4) rfl (vis_of rfl))) (db_val (de_var (i := 5) rfl (vis_of rfl))) rfl) (dw_and1 (dt_w (dw_or (dt_cmp (op_eqD2 U) (db_val (de_var (i := 1) rfl (vis_of rfl))) (db_val (de_str)) rfl) (dw_or (dt_w (dw_and (dt_cmp (op_eqD2 U) (db_val (de_var (i := 1) rfl (vis_of rfl))) (db_val (de_str)) rfl) (dw_and1 (dt_cmp (op_eqD2 U) (db_val (de_var (i := 5) rfl (vis_of rfl))) (db_val (de_op op_addD (db_val (de_var (i := 4) rfl (vis_of rfl))) (db_val (de_int)))) rfl)))) (dw_or1 (dt_w (dw_and (dt_cmp (op_eqD2 U) (db_val (de_var (i := 1) rfl (vis_of rfl))) (db_val (de_str)) rfl) (dw_and1 (dt_cmp (op_inD2 U) (db_val (de_op op_subD (db_val (de_var (i := 5) rfl (vis_of rfl))) (db_val (de_var (i := 4) rfl (vis_of rfl))))) (db_val (de_tup (da_cons (db_val (de_int)) (da_cons (db_val (de_op op_subD (db_val (de_var (i := 3) rfl (vis_of rfl))) (db_val (de_int)))) (da_nil))))) rfl))))))))))) (dss_one (ds_expr (de_append (i := 2) rfl (vis_of rfl) (de_op op_addD (db_val (de_op op_addD (db_val (de_op op_addD (db_val (de_op op_addD (db_val (de_slice (db_val (de_var (i := 0) rfl (vis_of rfl))) (do_no) (do_some (de_var (i := 4) rfl (vis_of rfl))))) (db_val (de_tup (da_cons (db_val (de_ix ix_seqD (db_val (de_var (i := 0) rfl (vis_of rfl))) (db_val (de_var (i := 5) rfl (vis_of rfl))) (fun _ _ => rfl))) (da_nil)))))) (db_val (de_slice (db_val (de_var (i := 0) rfl (vis_of rfl))) (do_some (de_op op_addD (db_val (de_var (i := 4) rfl (vis_of rfl))) (db_val (de_int)))) (do_some (de_var (i := 5) rfl (vis_of rfl))))))) (db_val (de_tup (da_cons (db_val (de_ix ix_seqD (db_val (de_var (i := 0) rfl (vis_of rfl))) (db_val (de_var (i := 4) rfl (vis_of rfl))) (fun _ _ => rfl))) (da_nil)))))) (db_val (de_slice (db_val (de_var (i := 0) rfl (vis_of rfl))) (do_some (de_op op_addD (db_val (de_var (i := 5) rfl (vis_of rfl))) (db_val (de_int)))) (do_no))))))) (dss_nil))))))))
    (dss_one (ds_ret hf (de_frz (i := 2) rfl (vis_of rfl)))))
theorem ok__law_off (F : FunD K "_law_off" "_law_off" (defArgs (top 56)) (defBody (top 56)) (defScope (top 56)) [] [] f fd) (C__law_steps : CalB P w K mg base CX0 1 "_law_steps" (spP ⟨P, w, K⟩ g__law_steps)) : FnG P w K mg base CX0 2 f fd ["row", "way"] (spP ⟨P, w, K⟩ g__law_off) := by
  refine ok_pure (k := 1) (fs := b__law_off) F sc__law_off rfl fun cdv A outer s H Fx hr hF hf => ?_
  have nd := sc__law_off.nd
  have U := un64 hr
  exact dss_cons (ds_par2 (i := 2) (j := 3) rfl nd rfl rfl (by decide) rfl rfl (dp_cons (DKd.n (fun _ => dn_d1 U (fun _ => de_var (i := 0) rfl (vis_of rfl)) (fun _ => de_int))) (fun _ => dp_cons (DKd.p (fun _ => de_new (dn_lst (da_cons (db_val (de_var (i := 0) rfl (vis_of rfl))) (da_nil))))) (fun _ => dp_nil))) rfl)
    (dss_cons (ds_while (fg := [4]) (fuel := fuel) PassesOwn.never (dt_cmp (op_neD2 U) (db_val (de_var (i := 3) rfl (vis_of rfl))) (db_val (de_new (dn_lst (da_nil)))) rfl) (dss_cons (ds_new (i := 4) nd rfl (loc_of rfl) (dn_lst (da_nil)))
    (dss_cons (ds_for (fg := [5]) PassesOwn.never rfl (di_seq (de_var (i := 3) rfl (vis_of rfl))) (dg_name (i := 5) nd rfl (loc_of rfl)) (dss_one (ds_for (fg := [6]) PassesOwn.never rfl (di_seq (de_call C__law_steps hr (by decide) pass0 hF rfl (da_cons (db_val (de_var (i := 5) rfl (vis_of rfl))) (da_cons (db_val (de_var (i := 1) rfl (vis_of rfl))) (da_nil))))) (dg_name (i := 6) nd rfl (loc_of rfl)) (dss_one (ds_if (dt_cmp (op_hasNotD U) (db_val (de_var (i := 6) rfl (vis_of rfl))) (db_slot (i := 2) rfl (vis_of rfl)) rfl) (dss_cons (ds_asg (de_op op_addD (db_val (de_ix (ix_atD U) (db_slot (i := 2) rfl (vis_of rfl)) (db_val (de_var (i := 5) rfl (vis_of rfl))) (fun _ _ => rfl))) (db_val (de_int))) (dg_key (i := 2) dq_stp U rfl (vis_of rfl) (de_var (i := 6) rfl (vis_of rfl))))
    (dss_one (ds_expr (de_append (i := 4) rfl (vis_of rfl) (de_var (i := 6) rfl (vis_of rfl)))))) (dss_nil))))))
    (dss_one (ds_set (i := 3) nd rfl (loc_of rfl) (de_frz (i := 4) rfl (vis_of rfl)))))))
    (dss_one (ds_ret hf (de_frz (i := 2) rfl (vis_of rfl)))))
theorem ok_is_whole (F : FunD K "is_whole" "is_whole" (defArgs (top 7)) (defBody (top 7)) (defScope (top 7)) [] [] f fd) (g_bool : mg "bool" = none) (g_int : mg "int" = none) (g_isinstance : mg "isinstance" = none) : FnG P w K mg base CX0 1 f fd ["value"] (spP ⟨P, w, K⟩ g_is_whole) := by
  refine ok_pure (k := 0) (fs := b_is_whole) F sc_is_whole rfl fun cdv A outer s H Fx hr hF hf => ?_
  have nd := sc_is_whole.nd
  have U := un64 hr
  exact dss_one (ds_ret hf (de_and (de_isa rfl g_isinstance rfl g_int boot_int (db_val (de_var (i := 0) rfl (vis_of rfl)))) (de_one (de_not (de_isa rfl g_isinstance rfl g_bool boot_bool (db_val (de_var (i := 0) rfl (vis_of rfl))))))))
theorem ok_is_between (F : FunD K "is_between" "is_between" (defArgs (top 8)) (defBody (top 8)) (defScope (top 8)) [] [] f fd) (C_is_whole : CalB P w K mg base CX0 1 "is_whole" (spP ⟨P, w, K⟩ g_is_whole)) : FnG P w K mg base CX0 2 f fd ["value", "least", "most"] (spP ⟨P, w, K⟩ g_is_between) := by
  refine ok_pure (k := 1) (fs := b_is_between) F sc_is_between rfl fun cdv A outer s H Fx hr hF hf => ?_
  have nd := sc_is_between.nd
  have U := un64 hr
  exact dss_one (ds_ret hf (de_and (de_call C_is_whole hr (by decide) pass0 hF rfl (da_cons (db_val (de_var (i := 0) rfl (vis_of rfl))) (da_nil))) (de_one (de_chain (op_leD U) (op_leD U) (db_val (de_var (i := 1) rfl (vis_of rfl))) (db_val (de_var (i := 0) rfl (vis_of rfl))) (db_val (de_var (i := 2) rfl (vis_of rfl)))))))
theorem ok_is_kinds (F : FunD K "is_kinds" "is_kinds" (defArgs (top 15)) (defBody (top 15)) (defScope (top 15)) [] [] f fd) (C_is_between : CalB P w K mg base CX0 2 "is_between" (spP ⟨P, w, K⟩ g_is_between)) (G_FEWEST_KINDS : GloB P w K mg "FEWEST_KINDS" (.int 2)) (G_MOST_KINDS : GloB P w K mg "MOST_KINDS" (.int 4)) : FnG P w K mg base CX0 3 f fd ["value"] (spP ⟨P, w, K⟩ g_is_kinds) := by
  refine ok_pure (k := 2) (fs := b_is_kinds) F sc_is_kinds rfl fun cdv A outer s H Fx hr hF hf => ?_
  have nd := sc_is_kinds.nd
  have U := un64 hr
  exact dss_one (ds_ret hf (de_call C_is_between hr (by decide) pass0 hF rfl (da_cons (db_val (de_var (i := 0) rfl (vis_of rfl))) (da_cons (db_val (de_glo rfl G_FEWEST_KINDS)) (da_cons (db_val (de_glo rfl G_MOST_KINDS)) (da_nil))))))
theorem ok_check_kinds (F : FunD K "check_kinds" "check_kinds" (defArgs (top 16)) (defBody (top 16)) (defScope (top 16)) [] [] f fd) (C_is_kinds : CalB P w K mg base CX0 3 "is_kinds" (spP ⟨P, w, K⟩ g_is_kinds)) : FnG P w K mg base CX0 4 f fd ["kinds"] (spP ⟨P, w, K⟩ g_check_kinds) := by
  refine ok_pure (k := 3) (fs := b_check_kinds) F sc_check_kinds rfl fun cdv A outer s H Fx hr hF hf => ?_
  have nd := sc_check_kinds.nd
  have U := un64 hr
  exact dss_one (ds_if (dt_not (dt_val (de_call C_is_kinds hr (by decide) pass0 hF rfl (da_cons (db_val (de_var (i := 0) rfl (vis_of rfl))) (da_nil))))) (dss_one (ds_never)) (dss_nil))
theorem ok_is_kind (F : FunD K "is_kind" "is_kind" (defArgs (top 17)) (defBody (top 17)) (defScope (top 17)) [] [] f fd) (C_is_between : CalB P w K mg base CX0 2 "is_between" (spP ⟨P, w, K⟩ g_is_between)) : FnG P w K mg base CX0 3 f fd ["kinds", "value"] (spP ⟨P, w, K⟩ g_is_kind) := by
  refine ok_pure (k := 2) (fs := b_is_kind) F sc_is_kind rfl fun cdv A outer s H Fx hr hF hf => ?_
  have nd := sc_is_kind.nd
  have U := un64 hr
  exact dss_one (ds_ret hf (de_call C_is_between hr (by decide) pass0 hF rfl (da_cons (db_val (de_var (i := 1) rfl (vis_of rfl))) (da_cons (db_val (de_int)) (da_cons (db_val (de_op op_subD (db_val (de_var (i := 0) rfl (vis_of rfl))) (db_val (de_int)))) (da_nil))))))
theorem ok_is_row (F : FunD K "is_row" "is_row" (defArgs (top 18)) (defBody (top 18)) (defScope (top 18)) [] [] f fd) (C_is_kind : CalB P w K mg base CX0 3 "is_kind" (spP ⟨P, w, K⟩ g_is_kind)) (g_all : mg "all" = none) (g_isinstance : mg "isinstance" = none) (g_len : mg "len" = none) (g_tuple : mg "tuple" = none) (G_MOST_PLACES : GloB P w K mg "MOST_PLACES" (.int 7)) : FnG P w K mg base CX0 4 f fd ["kinds", "value"] (spP ⟨P, w, K⟩ g_is_row) := by
  refine ok_pure (k := 3) (fs := b_is_row) F sc_is_row rfl fun cdv A outer s H Fx hr hF hf => ?_
  have nd := sc_is_row.nd
  have U := un64 hr
  exact dss_cons (ds_if (dt_w (dw_or (dt_not (dt_val (de_isa rfl g_isinstance rfl g_tuple boot_tuple (db_val (de_var (i := 1) rfl (vis_of rfl)))))) (dw_or1 (dt_not (dt_chain (op_leD U) (op_leD U) (db_val (de_int)) (db_val (de_callB ck_len rfl g_len boot_len (da_cons (db_val (de_var (i := 1) rfl (vis_of rfl))) (da_nil)))) (db_val (de_glo rfl G_MOST_PLACES))))))) (dss_one (ds_ret hf (de_bl))) (dss_nil))
    (dss_one (ds_ret hf (de_callB (ck_all rfl) rfl g_all boot_all (da_cons (db_val (de_new (dn_comp (own := [("own", 2)]) rfl nd (di_seq (de_var (i := 1) rfl (vis_of rfl))) (blkOk_of rfl) (fun _ _ _ _ _ _ => dg_name (i := 2) nd rfl (loc_of rfl)) (fun _ _ _ _ _ _ => dts_nil) (fun _ _ _ _ _ _ => de_call C_is_kind hr (by decide) pass0 nor_inn rfl (da_cons (db_val (de_var (i := 0) rfl (vis_of rfl))) (da_cons (db_val (de_var (i := 2) rfl (vis_of rfl))) (da_nil))))))) (da_nil)))))
theorem ok_check_row (F : FunD K "check_row" "check_row" (defArgs (top 19)) (defBody (top 19)) (defScope (top 19)) [] [] f fd) (C_is_row : CalB P w K mg base CX0 4 "is_row" (spP ⟨P, w, K⟩ g_is_row)) : FnG P w K mg base CX0 5 f fd ["kinds", "value"] (spP ⟨P, w, K⟩ g_check_row) := by
  refine ok_pure (k := 4) (fs := b_check_row) F sc_check_row rfl fun cdv A outer s H Fx hr hF hf => ?_
  have nd := sc_check_row.nd
  have U := un64 hr
  exact dss_one (ds_if (dt_not (dt_val (de_call C_is_row hr (by decide) pass0 hF rfl (da_cons (db_val (de_var (i := 0) rfl (vis_of rfl))) (da_cons (db_val (de_var (i := 1) rfl (vis_of rfl))) (da_nil)))))) (dss_one (ds_never)) (dss_nil))
theorem ok_check_rowed (F : FunD K "check_rowed" "check_rowed" (defArgs (top 20)) (defBody (top 20)) (defScope (top 20)) [] [] f fd) (C_check_kinds : CalB P w K mg base CX0 4 "check_kinds" (spP ⟨P, w, K⟩ g_check_kinds)) (C_check_row : CalB P w K mg base CX0 5 "check_row" (spP ⟨P, w, K⟩ g_check_row)) : FnG P w K mg base CX0 6 f fd ["kinds", "row"] (spP ⟨P, w, K⟩ g_check_rowed) := by
  refine ok_pure (k := 5) (fs := b_check_rowed) F sc_check_rowed rfl fun cdv A outer s H Fx hr hF hf => ?_
  have nd := sc_check_rowed.nd
  have U := un64 hr
  exact dss_cons (ds_expr (de_call C_check_kinds hr (by decide) pass0 hF rfl (da_cons (db_val (de_var (i := 0) rfl (vis_of rfl))) (da_nil))))
    (dss_one (ds_expr (de_call C_check_row hr (by decide) pass0 hF rfl (da_cons (db_val (de_var (i := 0) rfl (vis_of rfl))) (da_cons (db_val (de_var (i := 1) rfl (vis_of rfl))) (da_nil))))))
theorem ok_is_string (F : FunD K "is_string" "is_string" (defArgs (top 9)) (defBody (top 9)) (defScope (top 9)) [] [] f fd) (g_isinstance : mg "isinstance" = none) (g_str : mg "str" = none) : FnG P w K mg base CX0 1 f fd ["value"] (spP ⟨P, w, K⟩ g_is_string) := by
  refine ok_pure (k := 0) (fs := b_is_string) F sc_is_string rfl fun cdv A outer s H Fx hr hF hf => ?_
  have nd := sc_is_string.nd
  have U := un64 hr
  exact dss_one (ds_ret hf (de_isa rfl g_isinstance rfl g_str boot_str (db_val (de_var (i := 0) rfl (vis_of rfl)))))
theorem ok_is_way (F : FunD K "is_way" "is_way" (defArgs (top 44)) (defBody (top 44)) (defScope (top 44)) [] [] f fd) (C_is_string : CalB P w K mg base CX0 1 "is_string" (spP ⟨P, w, K⟩ g_is_string)) (G_WAYS : GloB P w K mg "WAYS" (.tuple [(.str "any"), (.str "near"), (.str "move"), (.str "front")])) : FnG P w K mg base CX0 2 f fd ["value"] (spP ⟨P, w, K⟩ g_is_way) := by
  refine ok_pure (k := 1) (fs := b_is_way) F sc_is_way rfl fun cdv A outer s H Fx hr hF hf => ?_
  have nd := sc_is_way.nd
  have U := un64 hr
  exact dss_one (ds_ret hf (de_and (de_call C_is_string hr (by decide) pass0 hF rfl (da_cons (db_val (de_var (i := 0) rfl (vis_of rfl))) (da_nil))) (de_one (de_cmp (op_inD2 U) (db_val (de_var (i := 0) rfl (vis_of rfl))) (db_val (de_glo rfl G_WAYS)) rfl))))
theorem ok_check_way (F : FunD K "check_way" "check_way" (defArgs (top 45)) (defBody (top 45)) (defScope (top 45)) [] [] f fd) (C_is_way : CalB P w K mg base CX0 2 "is_way" (spP ⟨P, w, K⟩ g_is_way)) : FnG P w K mg base CX0 3 f fd ["way"] (spP ⟨P, w, K⟩ g_check_way) := by
  refine ok_pure (k := 2) (fs := b_check_way) F sc_check_way rfl fun cdv A outer s H Fx hr hF hf => ?_
  have nd := sc_check_way.nd
  have U := un64 hr
  exact dss_one (ds_if (dt_not (dt_val (de_call C_is_way hr (by decide) pass0 hF rfl (da_cons (db_val (de_var (i := 0) rfl (vis_of rfl))) (da_nil))))) (dss_one (ds_never)) (dss_nil))
theorem ok_pairs_of (F : FunD K "pairs_of" "pairs_of" (defArgs (top 39)) (defBody (top 39)) (defScope (top 39)) [] [] f fd) (g_len : mg "len" = none) (g_range : mg "range" = none) (G_FLIP : GloB P w K mg "FLIP" (.str "flip")) (G_FRONT : GloB P w K mg "FRONT" (.str "front")) (G_MOVE : GloB P w K mg "MOVE" (.str "move")) (G_NEAR : GloB P w K mg "NEAR" (.str "near")) (G_RING : GloB P w K mg "RING" (.str "ring")) : FnG P w K mg base CX0 1 f fd ["row", "way"] (spP ⟨P, w, K⟩ g_pairs_of) := by
  refine ok_pure (k := 0) (fs := b_pairs_of) F sc_pairs_of rfl fun cdv A outer s H Fx hr hF hf => ?_
  have nd := sc_pairs_of.nd
  have U := un64 hr
  exact dss_cons (ds_set (i := 2) nd rfl (loc_of rfl) (de_op op_subD (db_val (de_callB ck_len rfl g_len boot_len (da_cons (db_val (de_var (i := 0) rfl (vis_of rfl))) (da_nil)))) (db_val (de_int))))
    (dss_cons (ds_if (dt_cmp (op_eqD2 U) (db_val (de_var (i := 1) rfl (vis_of rfl))) (db_val (de_glo rfl G_NEAR)) rfl) (dss_one (ds_ret hf (de_new (dn_comp (own := [("place", 4)]) rfl nd (di_range1 rfl g_range (de_var (i := 2) rfl (vis_of rfl))) (blkOk_of rfl) (fun _ _ _ _ _ _ => dg_name (i := 4) nd rfl (loc_of rfl)) (fun _ _ _ _ _ _ => dts_nil) (fun _ _ _ _ _ _ => de_tup (da_cons (db_val (de_var (i := 4) rfl (vis_of rfl))) (da_cons (db_val (de_op op_addD (db_val (de_var (i := 4) rfl (vis_of rfl))) (db_val (de_int)))) (da_nil)))))))) (dss_nil))
    (dss_cons (ds_if (dt_cmp (op_eqD2 U) (db_val (de_var (i := 1) rfl (vis_of rfl))) (db_val (de_glo rfl G_RING)) rfl) (dss_one (ds_ret hf (de_op op_addD (db_val (de_new (dn_comp (own := [("place", 4)]) rfl nd (di_range1 rfl g_range (de_var (i := 2) rfl (vis_of rfl))) (blkOk_of rfl) (fun _ _ _ _ _ _ => dg_name (i := 4) nd rfl (loc_of rfl)) (fun _ _ _ _ _ _ => dts_nil) (fun _ _ _ _ _ _ => de_tup (da_cons (db_val (de_var (i := 4) rfl (vis_of rfl))) (da_cons (db_val (de_op op_addD (db_val (de_var (i := 4) rfl (vis_of rfl))) (db_val (de_int)))) (da_nil))))))) (db_val (de_if (dt_cmp (op_gtD U) (db_val (de_var (i := 2) rfl (vis_of rfl))) (db_val (de_int)) rfl) (de_new (dn_lst (da_cons (db_val (de_tup (da_cons (db_val (de_int)) (da_cons (db_val (de_var (i := 2) rfl (vis_of rfl))) (da_nil))))) (da_nil)))) (de_new (dn_lst (da_nil)))))))) (dss_nil))
    (dss_cons (ds_if (dt_cmp (op_inD2 U) (db_val (de_var (i := 1) rfl (vis_of rfl))) (db_val (de_tup (da_cons (db_val (de_glo rfl G_FRONT)) (da_cons (db_val (de_glo rfl G_FLIP)) (da_nil))))) rfl) (dss_one (ds_ret hf (de_new (dn_comp (own := [("place", 4)]) rfl nd (di_range2 rfl g_range (de_int) (de_callB ck_len rfl g_len boot_len (da_cons (db_val (de_var (i := 0) rfl (vis_of rfl))) (da_nil)))) (blkOk_of rfl) (fun _ _ _ _ _ _ => dg_name (i := 4) nd rfl (loc_of rfl)) (fun _ _ _ _ _ _ => dts_nil) (fun _ _ _ _ _ _ => de_tup (da_cons (db_val (de_int)) (da_cons (db_val (de_var (i := 4) rfl (vis_of rfl))) (da_nil)))))))) (dss_nil))
    (dss_cons (ds_setLc2 (i := 3) (own := [("one", 5), ("other", 6)]) (vs1 := [6]) rfl nd rfl rfl rfl (di_range1 rfl g_range (de_callB ck_len rfl g_len boot_len (da_cons (db_val (de_var (i := 0) rfl (vis_of rfl))) (da_nil)))) (blkOk_of rfl) (by decide) (fun _ _ _ _ _ _ => dg_name (i := 5) nd rfl (loc_of rfl)) (fun _ _ _ _ _ _ => dts_nil) (fun _ _ _ _ _ _ => di_range1 rfl g_range (de_callB ck_len rfl g_len boot_len (da_cons (db_val (de_var (i := 0) rfl (vis_of rfl))) (da_nil)))) (fun _ _ _ _ _ _ => dg_name (i := 6) nd rfl (loc_of rfl)) (fun _ _ _ _ _ _ => dts_one (dt_cmp (op_neD2 U) (db_val (de_var (i := 5) rfl (vis_of rfl))) (db_val (de_var (i := 6) rfl (vis_of rfl))) rfl)) (fun _ _ _ _ _ _ => de_tup (da_cons (db_val (de_var (i := 5) rfl (vis_of rfl))) (da_cons (db_val (de_var (i := 6) rfl (vis_of rfl))) (da_nil)))))
    (dss_one (ds_ret hf (de_if (dt_cmp (op_eqD2 U) (db_val (de_var (i := 1) rfl (vis_of rfl))) (db_val (de_glo rfl G_MOVE)) rfl) (de_var (i := 3) rfl (vis_of rfl)) (de_new (dn_comp (own := [("one", 5), ("other", 6)]) rfl nd (di_seq (de_var (i := 3) rfl (vis_of rfl))) (blkOk_of rfl) (fun _ _ _ _ _ _ => dg_tup rfl (dgs_cons (dg_name (i := 5) nd rfl (loc_of rfl)) (dgs_cons (dg_name (i := 6) nd rfl (loc_of rfl)) (dgs_nil)))) (fun _ _ _ _ _ _ => dts_one (dt_cmp (op_ltD U) (db_val (de_var (i := 5) rfl (vis_of rfl))) (db_val (de_var (i := 6) rfl (vis_of rfl))) rfl)) (fun _ _ _ _ _ _ => de_tup (da_cons (db_val (de_var (i := 5) rfl (vis_of rfl))) (da_cons (db_val (de_var (i := 6) rfl (vis_of rfl))) (da_nil)))))))))))))
theorem ok_shifted (F : FunD K "shifted" "shifted" (defArgs (top 26)) (defBody (top 26)) (defScope (top 26)) [] [] f fd)  : FnG P w K mg base CX0 1 f fd ["row", "one", "other"] (spP ⟨P, w, K⟩ g_shifted) := by
  refine ok_pure (k := 0) (fs := b_shifted) F sc_shifted rfl fun cdv A outer s H Fx hr hF hf => ?_
  have nd := sc_shifted.nd
  have U := un64 hr
  exact dss_cons (ds_set (i := 3) nd rfl (loc_of rfl) (de_new (dn_lst (da_star (db_val (de_slice (db_val (de_var (i := 0) rfl (vis_of rfl))) (do_no) (do_some (de_var (i := 1) rfl (vis_of rfl))))) (da_star (db_val (de_slice (db_val (de_var (i := 0) rfl (vis_of rfl))) (do_some (de_op op_addD (db_val (de_var (i := 1) rfl (vis_of rfl))) (db_val (de_int)))) (do_no))) (da_nil))))))
    (dss_one (ds_ret hf (de_tup (da_star (db_val (de_slice (db_val (de_var (i := 3) rfl (vis_of rfl))) (do_no) (do_some (de_var (i := 2) rfl (vis_of rfl))))) (da_cons (db_val (de_ix ix_seqD (db_val (de_var (i := 0) rfl (vis_of rfl))) (db_val (de_var (i := 1) rfl (vis_of rfl))) (fun _ _ => rfl))) (da_star (db_val (de_slice (db_val (de_var (i := 3) rfl (vis_of rfl))) (do_some (de_var (i := 2) rfl (vis_of rfl))) (do_no))) (da_nil)))))))
theorem ok_put_in_each (F : FunD K "put_in_each" "put_in_each" (defArgs (top 25)) (defBody (top 25)) (defScope (top 25)) [] [] f fd) (g_list : mg "list" = none) (g_tuple : mg "tuple" = none) : FnG P w K mg base CX0 1 f fd ["row", "one", "other"] (spP ⟨P, w, K⟩ g_put_in_each) := by
  refine ok_pure (k := 0) (fs := b_put_in_each) F sc_put_in_each rfl fun cdv A outer s H Fx hr hF hf => ?_
  have nd := sc_put_in_each.nd
  have U := un64 hr
  exact dss_cons (ds_new (i := 3) nd rfl (loc_of rfl) (dn_callTy ck_listN rfl g_list boot_list (da_cons (db_val (de_var (i := 0) rfl (vis_of rfl))) (da_nil))))
    (dss_cons (ds_asg (de_tup (da_cons (db_val (de_ix ix_seqD (db_val (de_var (i := 0) rfl (vis_of rfl))) (db_val (de_var (i := 2) rfl (vis_of rfl))) (fun _ _ => rfl))) (da_cons (db_val (de_ix ix_seqD (db_val (de_var (i := 0) rfl (vis_of rfl))) (db_val (de_var (i := 1) rfl (vis_of rfl))) (fun _ _ => rfl))) (da_nil)))) (dg_tup rfl (dgs_cons (dg_at (i := 3) dq_stp rfl (vis_of rfl) (de_var (i := 1) rfl (vis_of rfl))) (dgs_cons (dg_at (i := 3) dq_stp rfl (vis_of rfl) (de_var (i := 2) rfl (vis_of rfl))) (dgs_nil)))))
    (dss_one (ds_ret hf (de_callTy ck_tuple rfl g_tuple boot_tuple (da_cons (db_slot (i := 3) rfl (vis_of rfl)) (da_nil))))))
theorem ok_done_by (F : FunD K "done_by" "done_by" (defArgs (top 40)) (defBody (top 40)) (defScope (top 40)) [] [] f fd) (C_put_in_each : CalB P w K mg base CX0 1 "put_in_each" (spP ⟨P, w, K⟩ g_put_in_each)) (C_shifted : CalB P w K mg base CX0 1 "shifted" (spP ⟨P, w, K⟩ g_shifted)) (G_FRONT : GloB P w K mg "FRONT" (.str "front")) (G_MOVE : GloB P w K mg "MOVE" (.str "move")) (G_TURNS : GloB P w K mg "TURNS" (.tuple [(.str "stretch"), (.str "flip")])) : FnG P w K mg base CX0 2 f fd ["row", "way", "pair"] (spP ⟨P, w, K⟩ g_done_by) := by
  refine ok_pure (k := 1) (fs := b_done_by) F sc_done_by rfl fun cdv A outer s H Fx hr hF hf => ?_
  have nd := sc_done_by.nd
  have U := un64 hr
  exact dss_cons (ds_if (dt_cmp (op_inD2 U) (db_val (de_var (i := 1) rfl (vis_of rfl))) (db_val (de_glo rfl G_TURNS)) rfl) (dss_one (ds_never)) (dss_nil))
    (dss_cons (ds_if (dt_cmp (op_eqD2 U) (db_val (de_var (i := 1) rfl (vis_of rfl))) (db_val (de_glo rfl G_MOVE)) rfl) (dss_one (ds_ret hf (de_call C_shifted hr (by decide) pass0 hF rfl (da_cons (db_val (de_var (i := 0) rfl (vis_of rfl))) (da_cons (db_val (de_ix ix_seqD (db_val (de_var (i := 2) rfl (vis_of rfl))) (db_val (de_int)) (fun _ _ => rfl))) (da_cons (db_val (de_ix ix_seqD (db_val (de_var (i := 2) rfl (vis_of rfl))) (db_val (de_int)) (fun _ _ => rfl))) (da_nil))))))) (dss_nil))
    (dss_cons (ds_if (dt_cmp (op_eqD2 U) (db_val (de_var (i := 1) rfl (vis_of rfl))) (db_val (de_glo rfl G_FRONT)) rfl) (dss_one (ds_ret hf (de_call C_shifted hr (by decide) pass0 hF rfl (da_cons (db_val (de_var (i := 0) rfl (vis_of rfl))) (da_cons (db_val (de_ix ix_seqD (db_val (de_var (i := 2) rfl (vis_of rfl))) (db_val (de_int)) (fun _ _ => rfl))) (da_cons (db_val (de_int)) (da_nil))))))) (dss_nil))
    (dss_one (ds_ret hf (de_call C_put_in_each hr (by decide) pass0 hF rfl (da_cons (db_val (de_var (i := 0) rfl (vis_of rfl))) (da_cons (db_val (de_ix ix_seqD (db_val (de_var (i := 2) rfl (vis_of rfl))) (db_val (de_int)) (fun _ _ => rfl))) (da_cons (db_val (de_ix ix_seqD (db_val (de_var (i := 2) rfl (vis_of rfl))) (db_val (de_int)) (fun _ _ => rfl))) (da_nil)))))))))
theorem ok_far_from (F : FunD K "far_from" "far_from" (defArgs (top 41)) (defBody (top 41)) (defScope (top 41)) [] [] f fd) (C_done_by : CalB P w K mg base CX0 2 "done_by" (spP ⟨P, w, K⟩ g_done_by)) (C_pairs_of : CalB P w K mg base CX0 1 "pairs_of" (spP ⟨P, w, K⟩ g_pairs_of)) (g_len : mg "len" = none) : FnG P w K mg base CX0 3 f fd ["row", "way"] (spP ⟨P, w, K⟩ g_far_from) := by
  refine ok_pure (k := 2) (fs := b_far_from) F sc_far_from rfl fun cdv A outer s H Fx hr hF hf => ?_
  have nd := sc_far_from.nd
  have U := un64 hr
  exact dss_cons (ds_par3 (i := 2) (j := 3) (l := 4) rfl nd rfl rfl rfl (by decide) (by decide) (by decide) rfl rfl rfl (dp_cons (DKd.n (fun _ => dn_d1 U (fun _ => de_var (i := 0) rfl (vis_of rfl)) (fun _ => de_int))) (fun _ => dp_cons (DKd.n (fun _ => dn_lst (da_cons (db_val (de_var (i := 0) rfl (vis_of rfl))) (da_nil)))) (fun _ => dp_cons (DKd.p (fun _ => de_int)) (fun _ => dp_nil)))) rfl)
    (dss_cons (ds_while (fg := [5]) (fuel := fuel) PassesOwn.never (dt_cmp (op_ltD U) (db_val (de_var (i := 4) rfl (vis_of rfl))) (db_val (de_callB ck_len rfl g_len boot_len (da_cons (db_slot (i := 3) rfl (vis_of rfl)) (da_nil)))) rfl) (dss_cons (ds_par2 (i := 5) (j := 4) rfl nd rfl rfl (by decide) rfl rfl (dp_cons (DKd.p (fun _ => de_ix ix_seqD (db_slot (i := 3) rfl (vis_of rfl)) (db_val (de_var (i := 4) rfl (vis_of rfl))) (fun _ _ => rfl))) (fun _ => dp_cons (DKd.p (fun _ => de_op op_addD (db_val (de_var (i := 4) rfl (vis_of rfl))) (db_val (de_int)))) (fun _ => dp_nil))) rfl)
    (dss_one (ds_for (fg := [6, 7]) PassesOwn.never rfl (di_seq (de_call C_pairs_of hr (by decide) pass0 hF rfl (da_cons (db_val (de_var (i := 5) rfl (vis_of rfl))) (da_cons (db_val (de_var (i := 1) rfl (vis_of rfl))) (da_nil))))) (dg_name (i := 6) nd rfl (loc_of rfl)) (dss_cons (ds_set (i := 7) nd rfl (loc_of rfl) (de_call C_done_by hr (by decide) pass0 hF rfl (da_cons (db_val (de_var (i := 5) rfl (vis_of rfl))) (da_cons (db_val (de_var (i := 1) rfl (vis_of rfl))) (da_cons (db_val (de_var (i := 6) rfl (vis_of rfl))) (da_nil))))))
    (dss_one (ds_if (dt_cmp (op_hasNotD U) (db_val (de_var (i := 7) rfl (vis_of rfl))) (db_slot (i := 2) rfl (vis_of rfl)) rfl) (dss_cons (ds_asg (de_op op_addD (db_val (de_ix (ix_atD U) (db_slot (i := 2) rfl (vis_of rfl)) (db_val (de_var (i := 5) rfl (vis_of rfl))) (fun _ _ => rfl))) (db_val (de_int))) (dg_key (i := 2) dq_stp U rfl (vis_of rfl) (de_var (i := 7) rfl (vis_of rfl))))
    (dss_one (ds_expr (de_append (i := 3) rfl (vis_of rfl) (de_var (i := 7) rfl (vis_of rfl)))))) (dss_nil))))))))
    (dss_one (ds_ret hf (de_frz (i := 2) rfl (vis_of rfl)))))
theorem ok_spread_by (F : FunD K "spread_by" "spread_by" (defArgs (top 42)) (defBody (top 42)) (defScope (top 42)) [] [] f fd) (C_far_from : CalB P w K mg base CX0 3 "far_from" (spP ⟨P, w, K⟩ g_far_from)) (g_max : mg "max" = none) (g_range : mg "range" = none) (g_tuple : mg "tuple" = none) : FnG P w K mg base CX0 4 f fd ["row", "way"] (spP ⟨P, w, K⟩ g_spread_by) := by
  refine ok_pure (k := 3) (fs := b_spread_by) F sc_spread_by rfl fun cdv A outer s H Fx hr hF hf => ?_
  have nd := sc_spread_by.nd
  have U := un64 hr
  exact dss_cons (ds_set (i := 2) nd rfl (loc_of rfl) (de_new (dn_comp (own := [("other", 3), ("far", 4)]) rfl nd (di_items (de_call C_far_from hr (by decide) pass0 hF rfl (da_cons (db_val (de_var (i := 0) rfl (vis_of rfl))) (da_cons (db_val (de_var (i := 1) rfl (vis_of rfl))) (da_nil))))) (blkOk_of rfl) (fun _ _ _ _ _ _ => dg_pair rfl (dgs_cons (dg_name (i := 3) nd rfl (loc_of rfl)) (dgs_cons (dg_name (i := 4) nd rfl (loc_of rfl)) (dgs_nil)))) (fun _ _ _ _ _ _ => dts_nil) (fun _ _ _ _ _ _ => de_var (i := 4) rfl (vis_of rfl)))))
    (dss_one (ds_ret hf (de_callTy ck_tuple rfl g_tuple boot_tuple (da_cons (db_val (de_new (dn_comp (own := [("far", 4)]) rfl nd (di_range1 rfl g_range (de_op op_addD (db_val (de_callB (ck_max rfl U) rfl g_max boot_max (da_cons (db_val (de_var (i := 2) rfl (vis_of rfl))) (da_nil)))) (db_val (de_int)))) (blkOk_of rfl) (fun _ _ _ _ _ _ => dg_name (i := 4) nd rfl (loc_of rfl)) (fun _ _ _ _ _ _ => dts_nil) (fun _ _ _ _ _ _ => de_count U (de_var (i := 2) rfl (vis_of rfl)) (da_cons (db_val (de_var (i := 4) rfl (vis_of rfl))) (da_nil)))))) (da_nil)))))
theorem ok_how_far (F : FunD K "how_far" "how_far" (defArgs (top 46)) (defBody (top 46)) (defScope (top 46)) [] [] f fd) (C_check_rowed : CalB P w K mg base CX0 6 "check_rowed" (spP ⟨P, w, K⟩ g_check_rowed)) (C_check_way : CalB P w K mg base CX0 3 "check_way" (spP ⟨P, w, K⟩ g_check_way)) (C_spread_by : CalB P w K mg base CX0 4 "spread_by" (spP ⟨P, w, K⟩ g_spread_by)) : FnG P w K mg base CX0 7 f fd ["kinds", "row", "way"] (spP ⟨P, w, K⟩ g_how_far) := by
  refine ok_pure (k := 6) (fs := b_how_far) F sc_how_far rfl fun cdv A outer s H Fx hr hF hf => ?_
  have nd := sc_how_far.nd
  have U := un64 hr
  exact dss_cons (ds_expr (de_call C_check_rowed hr (by decide) pass0 hF rfl (da_cons (db_val (de_var (i := 0) rfl (vis_of rfl))) (da_cons (db_val (de_var (i := 1) rfl (vis_of rfl))) (da_nil)))))
    (dss_cons (ds_expr (de_call C_check_way hr (by decide) pass0 hF rfl (da_cons (db_val (de_var (i := 2) rfl (vis_of rfl))) (da_nil))))
    (dss_one (ds_ret hf (de_call C_spread_by hr (by decide) pass0 hF rfl (da_cons (db_val (de_var (i := 1) rfl (vis_of rfl))) (da_cons (db_val (de_var (i := 2) rfl (vis_of rfl))) (da_nil)))))))
theorem ok_is_tuple_of (F : FunD K "is_tuple_of" "is_tuple_of" (defArgs (top 10)) (defBody (top 10)) (defScope (top 10)) [] [] f fd) (g_isinstance : mg "isinstance" = none) (g_len : mg "len" = none) (g_tuple : mg "tuple" = none) : FnG P w K mg base CX0 1 f fd ["value", "many"] (spP ⟨P, w, K⟩ g_is_tuple_of) := by
  refine ok_pure (k := 0) (fs := b_is_tuple_of) F sc_is_tuple_of rfl fun cdv A outer s H Fx hr hF hf => ?_
  have nd := sc_is_tuple_of.nd
  have U := un64 hr
  exact dss_one (ds_ret hf (de_and (de_isa rfl g_isinstance rfl g_tuple boot_tuple (db_val (de_var (i := 0) rfl (vis_of rfl)))) (de_one (de_cmp (op_eqD2 U) (db_val (de_callB ck_len rfl g_len boot_len (da_cons (db_val (de_var (i := 0) rfl (vis_of rfl))) (da_nil)))) (db_val (de_var (i := 1) rfl (vis_of rfl))) rfl))))
theorem ok_is_amounts (F : FunD K "is_amounts" "is_amounts" (defArgs (top 21)) (defBody (top 21)) (defScope (top 21)) [] [] f fd) (C_is_between : CalB P w K mg base CX0 2 "is_between" (spP ⟨P, w, K⟩ g_is_between)) (C_is_tuple_of : CalB P w K mg base CX0 1 "is_tuple_of" (spP ⟨P, w, K⟩ g_is_tuple_of)) (g_all : mg "all" = none) (g_sum : mg "sum" = none) (G_MOST_PLACES : GloB P w K mg "MOST_PLACES" (.int 7)) : FnG P w K mg base CX0 3 f fd ["kinds", "value"] (spP ⟨P, w, K⟩ g_is_amounts) := by
  refine ok_pure (k := 2) (fs := b_is_amounts) F sc_is_amounts rfl fun cdv A outer s H Fx hr hF hf => ?_
  have nd := sc_is_amounts.nd
  have U := un64 hr
  exact dss_cons (ds_if (dt_w (dw_or (dt_not (dt_val (de_call C_is_tuple_of hr (by decide) pass0 hF rfl (da_cons (db_val (de_var (i := 1) rfl (vis_of rfl))) (da_cons (db_val (de_var (i := 0) rfl (vis_of rfl))) (da_nil)))))) (dw_or1 (dt_not (dt_val (de_callB (ck_all rfl) rfl g_all boot_all (da_cons (db_val (de_new (dn_comp (own := [("own", 2)]) rfl nd (di_seq (de_var (i := 1) rfl (vis_of rfl))) (blkOk_of rfl) (fun _ _ _ _ _ _ => dg_name (i := 2) nd rfl (loc_of rfl)) (fun _ _ _ _ _ _ => dts_nil) (fun _ _ _ _ _ _ => de_call C_is_between hr (by decide) pass0 nor_inn rfl (da_cons (db_val (de_var (i := 2) rfl (vis_of rfl))) (da_cons (db_val (de_int)) (da_cons (db_val (de_glo rfl G_MOST_PLACES)) (da_nil)))))))) (da_nil)))))))) (dss_one (ds_ret hf (de_bl))) (dss_nil))
    (dss_one (ds_ret hf (de_chain (op_leD U) (op_leD U) (db_val (de_int)) (db_val (de_callB (ck_sum rfl) rfl g_sum boot_sum (da_cons (db_val (de_var (i := 1) rfl (vis_of rfl))) (da_nil)))) (db_val (de_glo rfl G_MOST_PLACES)))))
theorem ok_check_amounts (F : FunD K "check_amounts" "check_amounts" (defArgs (top 22)) (defBody (top 22)) (defScope (top 22)) [] [] f fd) (C_is_amounts : CalB P w K mg base CX0 3 "is_amounts" (spP ⟨P, w, K⟩ g_is_amounts)) : FnG P w K mg base CX0 4 f fd ["kinds", "value"] (spP ⟨P, w, K⟩ g_check_amounts) := by
  refine ok_pure (k := 3) (fs := b_check_amounts) F sc_check_amounts rfl fun cdv A outer s H Fx hr hF hf => ?_
  have nd := sc_check_amounts.nd
  have U := un64 hr
  exact dss_one (ds_if (dt_not (dt_val (de_call C_is_amounts hr (by decide) pass0 hF rfl (da_cons (db_val (de_var (i := 0) rfl (vis_of rfl))) (da_cons (db_val (de_var (i := 1) rfl (vis_of rfl))) (da_nil)))))) (dss_one (ds_never)) (dss_nil))
theorem ok_check_amounted (F : FunD K "check_amounted" "check_amounted" (defArgs (top 23)) (defBody (top 23)) (defScope (top 23)) [] [] f fd) (C_check_amounts : CalB P w K mg base CX0 4 "check_amounts" (spP ⟨P, w, K⟩ g_check_amounts)) (C_check_kinds : CalB P w K mg base CX0 4 "check_kinds" (spP ⟨P, w, K⟩ g_check_kinds)) : FnG P w K mg base CX0 5 f fd ["kinds", "amounts"] (spP ⟨P, w, K⟩ g_check_amounted) := by
  refine ok_pure (k := 4) (fs := b_check_amounted) F sc_check_amounted rfl fun cdv A outer s H Fx hr hF hf => ?_
  have nd := sc_check_amounted.nd
  have U := un64 hr
  exact dss_cons (ds_expr (de_call C_check_kinds hr (by decide) pass0 hF rfl (da_cons (db_val (de_var (i := 0) rfl (vis_of rfl))) (da_nil))))
    (dss_one (ds_expr (de_call C_check_amounts hr (by decide) pass0 hF rfl (da_cons (db_val (de_var (i := 0) rfl (vis_of rfl))) (da_cons (db_val (de_var (i := 1) rfl (vis_of rfl))) (da_nil))))))
theorem ok_rows_by (F : FunD K "rows_by" "rows_by" (defArgs (top 24)) (defBody (top 24)) (defScope (top 24)) [] [] f fd) (g_range : mg "range" = none) (g_sum : mg "sum" = none) : FnG P w K mg base CX0 1 f fd ["kinds", "amounts"] (spP ⟨P, w, K⟩ g_rows_by) := by
  refine ok_pure (k := 0) (fs := b_rows_by) F sc_rows_by rfl fun cdv A outer s H Fx hr hF hf => ?_
  have nd := sc_rows_by.nd
  have U := un64 hr
  exact dss_cons (ds_set (i := 2) nd rfl (loc_of rfl) (de_new (dn_lst (da_cons (db_val (de_tup (da_nil))) (da_nil)))))
    (dss_cons (ds_for (fg := [3]) PassesOwn.never rfl (di_range1 rfl g_range (de_callB (ck_sum rfl) rfl g_sum boot_sum (da_cons (db_val (de_var (i := 1) rfl (vis_of rfl))) (da_nil)))) (dg_name (i := 3) nd rfl (loc_of rfl)) (dss_one (ds_setLc2 (i := 2) (own := [("row", 4), ("kind", 5)]) (vs1 := [5]) rfl nd rfl rfl rfl (di_seq (de_var (i := 2) rfl (vis_of rfl))) (blkOk_of rfl) (by decide) (fun _ _ _ _ _ _ => dg_name (i := 4) nd rfl (loc_of rfl)) (fun _ _ _ _ _ _ => dts_nil) (fun _ _ _ _ _ _ => di_range1 rfl g_range (de_var (i := 0) rfl (vis_of rfl))) (fun _ _ _ _ _ _ => dg_name (i := 5) nd rfl (loc_of rfl)) (fun _ _ _ _ _ _ => dts_one (dt_cmp (op_ltD U) (db_val (de_count U (de_var (i := 4) rfl (vis_of rfl)) (da_cons (db_val (de_var (i := 5) rfl (vis_of rfl))) (da_nil)))) (db_val (de_ix ix_seqD (db_val (de_var (i := 1) rfl (vis_of rfl))) (db_val (de_var (i := 5) rfl (vis_of rfl))) (fun _ _ => rfl))) rfl)) (fun _ _ _ _ _ _ => de_tup (da_star (db_val (de_var (i := 4) rfl (vis_of rfl))) (da_cons (db_val (de_var (i := 5) rfl (vis_of rfl))) (da_nil)))))))
    (dss_one (ds_ret hf (de_var (i := 2) rfl (vis_of rfl)))))
theorem ok_all_rows (F : FunD K "all_rows" "all_rows" (defArgs (top 27)) (defBody (top 27)) (defScope (top 27)) [] [] f fd) (C_check_amounted : CalB P w K mg base CX0 5 "check_amounted" (spP ⟨P, w, K⟩ g_check_amounted)) (C_rows_by : CalB P w K mg base CX0 1 "rows_by" (spP ⟨P, w, K⟩ g_rows_by)) (g_tuple : mg "tuple" = none) : FnG P w K mg base CX0 6 f fd ["kinds", "amounts"] (spP ⟨P, w, K⟩ g_all_rows) := by
  refine ok_pure (k := 5) (fs := b_all_rows) F sc_all_rows rfl fun cdv A outer s H Fx hr hF hf => ?_
  have nd := sc_all_rows.nd
  have U := un64 hr
  exact dss_cons (ds_expr (de_call C_check_amounted hr (by decide) pass0 hF rfl (da_cons (db_val (de_var (i := 0) rfl (vis_of rfl))) (da_cons (db_val (de_var (i := 1) rfl (vis_of rfl))) (da_nil)))))
    (dss_one (ds_ret hf (de_callTy ck_tuple rfl g_tuple boot_tuple (da_cons (db_val (de_call C_rows_by hr (by decide) pass0 hF rfl (da_cons (db_val (de_var (i := 0) rfl (vis_of rfl))) (da_cons (db_val (de_var (i := 1) rfl (vis_of rfl))) (da_nil))))) (da_nil)))))
theorem ok__law_amounts (F : FunD K "_law_amounts" "_law_amounts" (defArgs (top 53)) (defBody (top 53)) (defScope (top 53)) [] [] f fd) (g_range : mg "range" = none) (g_tuple : mg "tuple" = none) : FnG P w K mg base CX0 1 f fd ["kinds", "row"] (spP ⟨P, w, K⟩ g__law_amounts) := by
  refine ok_pure (k := 0) (fs := b__law_amounts) F sc__law_amounts rfl fun cdv A outer s H Fx hr hF hf => ?_
  have nd := sc__law_amounts.nd
  have U := un64 hr
  exact dss_one (ds_ret hf (de_callTy ck_tuple rfl g_tuple boot_tuple (da_cons (db_val (de_new (dn_comp (own := [("kind", 2)]) rfl nd (di_range1 rfl g_range (de_var (i := 0) rfl (vis_of rfl))) (blkOk_of rfl) (fun _ _ _ _ _ _ => dg_name (i := 2) nd rfl (loc_of rfl)) (fun _ _ _ _ _ _ => dts_nil) (fun _ _ _ _ _ _ => de_count U (de_var (i := 1) rfl (vis_of rfl)) (da_cons (db_val (de_var (i := 2) rfl (vis_of rfl))) (da_nil)))))) (da_nil))))
theorem ok__law_all_rows (F : FunD K "_law_all_rows" "_law_all_rows" (defArgs (top 54)) (defBody (top 54)) (defScope (top 54)) [] [] f fd) (g_len : mg "len" = none) (g_range : mg "range" = none) (g_set : mg "set" = none) (g_sorted : mg "sorted" = none) : FnG P w K mg base CX0 1 f fd ["row"] (spP ⟨P, w, K⟩ g__law_all_rows) := by
  refine ok_pure (k := 0) (fs := b__law_all_rows) F sc__law_all_rows rfl fun cdv A outer s H Fx hr hF hf => ?_
  have nd := sc__law_all_rows.nd
  have U := un64 hr
  exact dss_cons (ds_set (i := 1) nd rfl (loc_of rfl) (de_new (dn_lst (da_cons (db_val (de_tup (da_nil))) (da_nil)))))
    (dss_cons (ds_for (fg := [2, 3]) PassesOwn.never rfl (di_range1 rfl g_range (de_callB ck_len rfl g_len boot_len (da_cons (db_val (de_var (i := 0) rfl (vis_of rfl))) (da_nil)))) (dg_name (i := 2) nd rfl (loc_of rfl)) (dss_cons (ds_set (i := 3) nd rfl (loc_of rfl) (de_new (dn_lst (da_nil))))
    (dss_cons (ds_for (fg := [4]) PassesOwn.never rfl (di_seq (de_var (i := 1) rfl (vis_of rfl))) (dg_name (i := 4) nd rfl (loc_of rfl)) (dss_one (ds_set (i := 3) nd rfl (loc_of rfl) (de_op op_addD (db_val (de_var (i := 3) rfl (vis_of rfl))) (db_val (de_new (dn_comp (own := [("kind", 5)]) rfl nd (di_seq (de_sortSet rfl rfl g_sorted rfl g_set (de_var (i := 0) rfl (vis_of rfl)))) (blkOk_of rfl) (fun _ _ _ _ _ _ => dg_name (i := 5) nd rfl (loc_of rfl)) (fun _ _ _ _ _ _ => dts_one (dt_cmp (op_ltD U) (db_val (de_count U (de_var (i := 4) rfl (vis_of rfl)) (da_cons (db_val (de_var (i := 5) rfl (vis_of rfl))) (da_nil)))) (db_val (de_count U (de_var (i := 0) rfl (vis_of rfl)) (da_cons (db_val (de_var (i := 5) rfl (vis_of rfl))) (da_nil)))) rfl)) (fun _ _ _ _ _ _ => de_op op_addD (db_val (de_var (i := 4) rfl (vis_of rfl))) (db_val (de_tup (da_cons (db_val (de_var (i := 5) rfl (vis_of rfl))) (da_nil))))))))))))
    (dss_one (ds_set (i := 1) nd rfl (loc_of rfl) (de_var (i := 3) rfl (vis_of rfl)))))))
    (dss_one (ds_ret hf (de_var (i := 1) rfl (vis_of rfl)))))
theorem ok__law_mixed (F : FunD K "_law_mixed" "_law_mixed" (defArgs (top 52)) (defBody (top 52)) (defScope (top 52)) [] [] f fd) (C__law_take : CalB P w K mg base CX0 1 "_law_take" (spM ⟨P, w, K⟩ g__law_take)) (g_len : mg "len" = none) (g_list : mg "list" = none) (g_tuple : mg "tuple" = none) : FnG P w K mg base CX0 2 f fd ["bag", "row"] (spM ⟨P, w, K⟩ g__law_mixed) := by
  refine ok_mut (k := 1) (fs := b__law_mixed) F sc__law_mixed rfl fun cdv A outer s H Fx hr hF hf => ?_
  have nd := sc__law_mixed.nd
  have U := un64 hr
  exact dss_cons (ds_par2 (i := 2) (j := 3) rfl nd rfl rfl (by decide) rfl rfl (dp_cons (DKd.n (fun _ => dn_callTy ck_listN rfl g_list boot_list (da_cons (db_val (de_var (i := 1) rfl (vis_of rfl))) (da_nil)))) (fun _ => dp_cons (DKd.n (fun _ => dn_lst (da_nil))) (fun _ => dp_nil))) rfl)
    (dss_cons (ds_while (fg := []) (fuel := fuel) PassesOwn.never (dt_cmp (op_neD2 U) (db_slot (i := 2) rfl (vis_of rfl)) (db_val (de_new (dn_lst (da_nil)))) rfl) (dss_one (ds_expr (de_append (i := 3) rfl (vis_of rfl) (de_popK (i := 2) rfl (vis_of rfl) (de_callM (i := 0) C__law_take hr (by decide) pass0 hF rfl rfl (vis_of rfl) (da_cons (db_val (de_callB ck_len rfl g_len boot_len (da_cons (db_slot (i := 2) rfl (vis_of rfl)) (da_nil)))) (da_nil))))))))
    (dss_one (ds_ret hf (de_callTy ck_tuple rfl g_tuple boot_tuple (da_cons (db_slot (i := 3) rfl (vis_of rfl)) (da_nil))))))
theorem ok__law_right (F : FunD K "_law_right" "_law_right" (defArgs (top 59)) (defBody (top 59)) (defScope (top 59)) [] [] f fd) (C__law_all_rows : CalB P w K mg base CX0 1 "_law_all_rows" (spP ⟨P, w, K⟩ g__law_all_rows)) (C__law_amounts : CalB P w K mg base CX0 1 "_law_amounts" (spP ⟨P, w, K⟩ g__law_amounts)) (C__law_mixed : CalB P w K mg base CX0 2 "_law_mixed" (spM ⟨P, w, K⟩ g__law_mixed)) (C__law_numbers : CalB P w K mg base CX0 1 "_law_numbers" (spP ⟨P, w, K⟩ g__law_numbers)) (C__law_off : CalB P w K mg base CX0 2 "_law_off" (spP ⟨P, w, K⟩ g__law_off)) (C__law_row : CalB P w K mg base CX0 2 "_law_row" (spM ⟨P, w, K⟩ g__law_row)) (C__law_way : CalB P w K mg base CX0 3 "_law_way" (spM ⟨P, w, K⟩ g__law_way)) (C_all_rows : CalB P w K mg base CX0 6 "all_rows" (spP ⟨P, w, K⟩ g_all_rows)) (C_how_far : CalB P w K mg base CX0 7 "how_far" (spP ⟨P, w, K⟩ g_how_far)) (g_len : mg "len" = none) (g_list : mg "list" = none) (g_repr : mg "repr" = none) (g_sum : mg "sum" = none) (K0_how_far : CalKB P w K mg base CX0 7 "how_far" ["way", "row", "kinds"] [2, 1, 0] (spP ⟨P, w, K⟩ g_how_far)) : FnG P w K mg base CX0 8 f fd ["bag"] (spM ⟨P, w, K⟩ g__law_right) := by
  refine ok_mut (k := 7) (fs := b__law_right) F sc__law_right rfl fun cdv A outer s H Fx hr hF hf => ?_
  have nd := sc__law_right.nd
  have U := un64 hr
  exact dss_cons (ds_asg (de_callM (i := 0) C__law_row hr (by decide) pass0 hF rfl rfl (vis_of rfl) (da_cons (db_val (de_int)) (da_nil))) (dg_tup rfl (dgs_cons (dg_name (i := 1) nd rfl (loc_of rfl)) (dgs_cons (dg_name (i := 2) nd rfl (loc_of rfl)) (dgs_nil)))))
    (dss_cons (ds_set (i := 3) nd rfl (loc_of rfl) (de_callM (i := 0) C__law_way hr (by decide) pass0 hF rfl rfl (vis_of rfl) (da_nil)))
    (dss_cons (ds_set (i := 4) nd rfl (loc_of rfl) (de_call C__law_numbers hr (by decide) pass0 hF rfl (da_cons (db_val (de_call C__law_off hr (by decide) pass0 hF rfl (da_cons (db_val (de_var (i := 2) rfl (vis_of rfl))) (da_cons (db_val (de_var (i := 3) rfl (vis_of rfl))) (da_nil))))) (da_nil))))
    (dss_cons (ds_if (dt_cmp (op_neD2 U) (db_val (de_callB (ck_repr U hr.2) rfl g_repr boot_repr (da_cons (db_val (de_new (dn_lst (da_cons (db_val (de_call C_how_far hr (by decide) pass0 hF rfl (da_cons (db_val (de_var (i := 1) rfl (vis_of rfl))) (da_cons (db_val (de_var (i := 2) rfl (vis_of rfl))) (da_cons (db_val (de_var (i := 3) rfl (vis_of rfl))) (da_nil)))))) (da_cons (db_val (de_callKw (ks := ["way", "row", "kinds"]) K0_how_far hr (by decide) pass0 hF rfl (dk_cons (db_val (de_var (i := 3) rfl (vis_of rfl))) (dk_cons (db_val (de_var (i := 2) rfl (vis_of rfl))) (dk_cons (db_val (de_var (i := 1) rfl (vis_of rfl))) (dk_nil)))))) (da_nil)))))) (da_nil)))) (db_val (de_callB (ck_repr U hr.2) rfl g_repr boot_repr (da_cons (db_val (de_new (dn_lst (da_cons (db_val (de_var (i := 4) rfl (vis_of rfl))) (da_cons (db_val (de_var (i := 4) rfl (vis_of rfl))) (da_nil)))))) (da_nil)))) rfl) (dss_one (ds_ret hf (de_bl))) (dss_nil))
    (dss_cons (ds_set (i := 5) nd rfl (loc_of rfl) (de_call C_all_rows hr (by decide) pass0 hF rfl (da_cons (db_val (de_var (i := 1) rfl (vis_of rfl))) (da_cons (db_val (de_call C__law_amounts hr (by decide) pass0 hF rfl (da_cons (db_val (de_var (i := 1) rfl (vis_of rfl))) (da_cons (db_val (de_var (i := 2) rfl (vis_of rfl))) (da_nil))))) (da_nil)))))
    (dss_cons (ds_if (dt_w (dw_or (dt_cmp (op_neD2 U) (db_val (de_callTy ck_list rfl g_list boot_list (da_cons (db_val (de_var (i := 5) rfl (vis_of rfl))) (da_nil)))) (db_val (de_call C__law_all_rows hr (by decide) pass0 hF rfl (da_cons (db_val (de_var (i := 2) rfl (vis_of rfl))) (da_nil)))) rfl) (dw_or (dt_cmp (op_neD2 U) (db_val (de_callB (ck_sum rfl) rfl g_sum boot_sum (da_cons (db_val (de_var (i := 4) rfl (vis_of rfl))) (da_nil)))) (db_val (de_callB ck_len rfl g_len boot_len (da_cons (db_val (de_var (i := 5) rfl (vis_of rfl))) (da_nil)))) rfl) (dw_or1 (dt_cmp (op_neD2 U) (db_val (de_ix ix_seqD (db_val (de_var (i := 4) rfl (vis_of rfl))) (db_val (de_int)) (fun _ _ => rfl))) (db_val (de_int)) rfl))))) (dss_one (ds_ret hf (de_bl))) (dss_nil))
    (dss_one (ds_ret hf (de_cmp (op_eqD2 U) (db_val (de_call C_how_far hr (by decide) pass0 hF rfl (da_cons (db_val (de_var (i := 1) rfl (vis_of rfl))) (da_cons (db_val (de_var (i := 2) rfl (vis_of rfl))) (da_cons (db_val (de_str)) (da_nil)))))) (db_val (de_call C_how_far hr (by decide) pass0 hF rfl (da_cons (db_val (de_var (i := 1) rfl (vis_of rfl))) (da_cons (db_val (de_callM (i := 0) C__law_mixed hr (by decide) pass0 hF rfl rfl (vis_of rfl) (da_cons (db_val (de_var (i := 2) rfl (vis_of rfl))) (da_nil)))) (da_cons (db_val (de_str)) (da_nil)))))) rfl))))))))
theorem ok_law (F : FunD K "law" "law" (defArgs (top 60)) (defBody (top 60)) (defScope (top 60)) [] [] f fd) (C__law_bag : CalB P w K mg base CX0 1 "_law_bag" (spN ⟨P, w, K⟩ .m g__law_bag)) (C__law_right : CalB P w K mg base CX0 8 "_law_right" (spM ⟨P, w, K⟩ g__law_right)) (g_all : mg "all" = none) (g_len : mg "len" = none) (g_max : mg "max" = none) (g_min : mg "min" = none) (g_range : mg "range" = none) : FnG P w K mg base CX0 9 f fd ["script"] (spP ⟨P, w, K⟩ g_law) := by
  refine ok_pure (k := 8) (fs := b_law) F sc_law rfl fun cdv A outer s H Fx hr hF hf => ?_
  have nd := sc_law.nd
  have U := un64 hr
  exact dss_cons (ds_for (fg := [1, 2]) PassesOwn.never rfl (di_range1 rfl g_range (de_callB (ck_max2 rfl) rfl g_max boot_max (da_cons (db_val (de_int)) (da_cons (db_val (de_callB (ck_min2 rfl) rfl g_min boot_min (da_cons (db_val (de_callB ck_len rfl g_len boot_len (da_cons (db_val (de_var (i := 0) rfl (vis_of rfl))) (da_nil)))) (da_cons (db_val (de_int)) (da_nil))))) (da_nil))))) (dg_name (i := 1) nd rfl (loc_of rfl)) (dss_cons (ds_new (i := 2) nd rfl (loc_of rfl) (dn_call C__law_bag hr (by decide) pass0 hF rfl (da_cons (db_val (de_var (i := 0) rfl (vis_of rfl))) (da_cons (db_val (de_var (i := 1) rfl (vis_of rfl))) (da_nil)))))
    (dss_one (ds_if (dt_not (dt_val (de_callB (ck_all rfl) rfl g_all boot_all (da_cons (db_val (de_new (dn_comp (own := [("turn", 3)]) rfl nd (di_range1 rfl g_range (de_int)) (blkOk_of rfl) (fun _ _ _ _ _ _ => dg_name (i := 3) nd rfl (loc_of rfl)) (fun _ _ _ _ _ _ => dts_nil) (fun _ _ _ _ _ _ => de_callM (i := 2) C__law_right hr (by decide) pass0 nor_inn rfl rfl (vis_of rfl) (da_nil))))) (da_nil))))) (dss_one (ds_ret hf (de_bl))) (dss_nil)))))
    (dss_one (ds_ret hf (de_bl)))
end
end WP
end
section
set_option Elab.async false
set_option linter.all false
set_option maxRecDepth 100000
set_option maxHeartbeats 0
namespace WP
open PySem PySem.Spec PyProof.Rows PySem.W PySem.Calls L2
def d__law_bag : He.DefD := ⟨("_law_bag", none), "_law_bag", "_law_bag", defArgs (top 48), defBody (top 48), defScope (top 48), [], []⟩
def d__law_take : He.DefD := ⟨("_law_take", none), "_law_take", "_law_take", defArgs (top 49), defBody (top 49), defScope (top 49), [], []⟩
def d__law_row : He.DefD := ⟨("_law_row", none), "_law_row", "_law_row", defArgs (top 51), defBody (top 51), defScope (top 51), [], []⟩
def d__law_pull : He.DefD := ⟨("_law_pull", none), "_law_pull", "_law_pull", defArgs (top 50), defBody (top 50), defScope (top 50), [], []⟩
def d__law_way : He.DefD := ⟨("_law_way", none), "_law_way", "_law_way", defArgs (top 57), defBody (top 57), defScope (top 57), [], []⟩
def d__law_numbers : He.DefD := ⟨("_law_numbers", none), "_law_numbers", "_law_numbers", defArgs (top 58), defBody (top 58), defScope (top 58), [], []⟩
def d__law_steps : He.DefD := ⟨("_law_steps", none), "_law_steps", "_law_steps", defArgs (top 55), defBody (top 55), defScope (top 55), [], []⟩
def d__law_off : He.DefD := ⟨("_law_off", none), "_law_off", "_law_off", defArgs (top 56), defBody (top 56), defScope (top 56), [], []⟩
def d_is_whole : He.DefD := ⟨("is_whole", none), "is_whole", "is_whole", defArgs (top 7), defBody (top 7), defScope (top 7), [], []⟩
def d_is_between : He.DefD := ⟨("is_between", none), "is_between", "is_between", defArgs (top 8), defBody (top 8), defScope (top 8), [], []⟩
def d_is_kinds : He.DefD := ⟨("is_kinds", none), "is_kinds", "is_kinds", defArgs (top 15), defBody (top 15), defScope (top 15), [], []⟩
def d_check_kinds : He.DefD := ⟨("check_kinds", none), "check_kinds", "check_kinds", defArgs (top 16), defBody (top 16), defScope (top 16), [], []⟩
def d_is_kind : He.DefD := ⟨("is_kind", none), "is_kind", "is_kind", defArgs (top 17), defBody (top 17), defScope (top 17), [], []⟩
def d_is_row : He.DefD := ⟨("is_row", none), "is_row", "is_row", defArgs (top 18), defBody (top 18), defScope (top 18), [], []⟩
def d_check_row : He.DefD := ⟨("check_row", none), "check_row", "check_row", defArgs (top 19), defBody (top 19), defScope (top 19), [], []⟩
def d_check_rowed : He.DefD := ⟨("check_rowed", none), "check_rowed", "check_rowed", defArgs (top 20), defBody (top 20), defScope (top 20), [], []⟩
def d_is_string : He.DefD := ⟨("is_string", none), "is_string", "is_string", defArgs (top 9), defBody (top 9), defScope (top 9), [], []⟩
def d_is_way : He.DefD := ⟨("is_way", none), "is_way", "is_way", defArgs (top 44), defBody (top 44), defScope (top 44), [], []⟩
def d_check_way : He.DefD := ⟨("check_way", none), "check_way", "check_way", defArgs (top 45), defBody (top 45), defScope (top 45), [], []⟩
def d_pairs_of : He.DefD := ⟨("pairs_of", none), "pairs_of", "pairs_of", defArgs (top 39), defBody (top 39), defScope (top 39), [], []⟩
def d_shifted : He.DefD := ⟨("shifted", none), "shifted", "shifted", defArgs (top 26), defBody (top 26), defScope (top 26), [], []⟩
def d_put_in_each : He.DefD := ⟨("put_in_each", none), "put_in_each", "put_in_each", defArgs (top 25), defBody (top 25), defScope (top 25), [], []⟩
def d_done_by : He.DefD := ⟨("done_by", none), "done_by", "done_by", defArgs (top 40), defBody (top 40), defScope (top 40), [], []⟩
def d_far_from : He.DefD := ⟨("far_from", none), "far_from", "far_from", defArgs (top 41), defBody (top 41), defScope (top 41), [], []⟩
def d_spread_by : He.DefD := ⟨("spread_by", none), "spread_by", "spread_by", defArgs (top 42), defBody (top 42), defScope (top 42), [], []⟩
def d_how_far : He.DefD := ⟨("how_far", none), "how_far", "how_far", defArgs (top 46), defBody (top 46), defScope (top 46), [], []⟩
def d_is_tuple_of : He.DefD := ⟨("is_tuple_of", none), "is_tuple_of", "is_tuple_of", defArgs (top 10), defBody (top 10), defScope (top 10), [], []⟩
def d_is_amounts : He.DefD := ⟨("is_amounts", none), "is_amounts", "is_amounts", defArgs (top 21), defBody (top 21), defScope (top 21), [], []⟩
def d_check_amounts : He.DefD := ⟨("check_amounts", none), "check_amounts", "check_amounts", defArgs (top 22), defBody (top 22), defScope (top 22), [], []⟩
def d_check_amounted : He.DefD := ⟨("check_amounted", none), "check_amounted", "check_amounted", defArgs (top 23), defBody (top 23), defScope (top 23), [], []⟩
def d_rows_by : He.DefD := ⟨("rows_by", none), "rows_by", "rows_by", defArgs (top 24), defBody (top 24), defScope (top 24), [], []⟩
def d_all_rows : He.DefD := ⟨("all_rows", none), "all_rows", "all_rows", defArgs (top 27), defBody (top 27), defScope (top 27), [], []⟩
def d__law_amounts : He.DefD := ⟨("_law_amounts", none), "_law_amounts", "_law_amounts", defArgs (top 53), defBody (top 53), defScope (top 53), [], []⟩
def d__law_all_rows : He.DefD := ⟨("_law_all_rows", none), "_law_all_rows", "_law_all_rows", defArgs (top 54), defBody (top 54), defScope (top 54), [], []⟩
def d__law_mixed : He.DefD := ⟨("_law_mixed", none), "_law_mixed", "_law_mixed", defArgs (top 52), defBody (top 52), defScope (top 52), [], []⟩
def d__law_right : He.DefD := ⟨("_law_right", none), "_law_right", "_law_right", defArgs (top 59), defBody (top 59), defScope (top 59), [], []⟩
def d_law : He.DefD := ⟨("law", none), "law", "law", defArgs (top 60), defBody (top 60), defScope (top 60), [], []⟩
def fn : List He.DefD := ([d__law_bag, d__law_take, d__law_row, d__law_pull, d__law_way, d__law_numbers, d__law_steps, d__law_off, d_is_whole, d_is_between, d_is_kinds, d_check_kinds, d_is_kind, d_is_row, d_check_row, d_check_rowed, d_is_string, d_is_way, d_check_way, d_pairs_of, d_shifted, d_put_in_each, d_done_by, d_far_from, d_spread_by, d_how_far, d_is_tuple_of, d_is_amounts, d_check_amounts, d_check_amounted] : List He.DefD) ++ ([d_rows_by, d_all_rows, d__law_amounts, d__law_all_rows, d__law_mixed, d__law_right, d_law] : List He.DefD)
def fa : List He.Fa := ([.glo "_law_bag", .glo "_law_take", .glo "_law_row", .glo "_law_pull", .glo "_law_way", .glo "_law_numbers", .glo "_law_steps", .glo "_law_off", .glo "is_whole", .glo "is_between", .glo "is_kinds", .glo "check_kinds", .glo "is_kind", .glo "is_row", .glo "check_row", .glo "check_rowed", .glo "is_string", .glo "is_way", .glo "check_way", .glo "pairs_of", .glo "shifted", .glo "put_in_each", .glo "done_by", .glo "far_from", .glo "spread_by", .glo "how_far", .glo "is_tuple_of", .glo "is_amounts", .glo "check_amounts", .glo "check_amounted"] : List He.Fa) ++ ([.glo "rows_by", .glo "all_rows", .glo "_law_amounts", .glo "_law_all_rows", .glo "_law_mixed", .glo "_law_right", .glo "law", .free "abs", .free "all", .free "bool", .free "divmod", .free "int", .free "isinstance", .free "len", .free "list", .free "max", .free "min", .free "range", .free "repr", .free "set", .free "sorted", .free "str", .free "sum", .free "tuple", .int "FEWEST_KINDS" 2, .str "FLIP" "flip", .str "FRONT" "front", .int "MOST_KINDS" 4, .int "MOST_PLACES" 7, .str "MOVE" "move"] : List He.Fa) ++ ([.str "NEAR" "near", .str "RING" "ring"] : List He.Fa)
def ts : List (Str × List D) := ([("TURNS", [(.str "stretch"), (.str "flip")]), ("WAYS", [(.str "any"), (.str "near"), (.str "move"), (.str "front")])] : List (Str × List D))
abbrev Rw : PySem.W.OpenRow := PySem.W.OpenLaw.row PySem.Challenge.rw_wrongplaces_k58_whole_spreads
abbrev hk : PySem.W.Hook := hookW 4 fa fn ts
def ob (s : PySem.W.SharedT) : AlW := obsW 4 fa fn ts (HandSHeadRun.getT s)
theorem ob_eq (s : PySem.W.SharedT) : ob s = hk.obs s.abs := obsW_eq (HandSHeadRun.getT_eq s)
def loose : List Str := (["PlaceError", "InvalidNumber", "InvalidRow", "InvalidWay", "InvalidAmounts", "is_whole", "is_between", "is_string", "is_tuple_of", "FEWEST_KINDS", "MOST_KINDS", "MOST_PLACES", "is_kinds", "check_kinds", "is_kind", "is_row", "check_row", "check_rowed", "is_amounts", "check_amounts", "check_amounted", "rows_by", "put_in_each", "shifted", "all_rows", "ANY", "NEAR", "MOVE", "FRONT", "STRETCH"] : List Str) ++ (["FLIP", "RING", "WAYS", "TURNS", "turned_at", "pairs_of", "done_by", "far_from", "spread_by", "is_way", "check_way", "how_far", "_law_bag", "_law_take", "_law_pull", "_law_row", "_law_mixed", "_law_amounts", "_law_all_rows", "_law_steps", "_law_off", "_law_way", "_law_numbers", "_law_right"] : List Str)
theorem run (w : World) : HandSHeadRun.RunEq Rw (PySem.W.view Rw.prog [60]) hk ob 4000 loose w := by
  intro os
  kernel_rfl
theorem facts {P : Program} {w : World} {K : PySem.W.Frag} {h : Heap} {mg : Str → Option Value} {f0 : Addr} (X : K.In h) (G : h.Ns mainGlobals mg) (hfa : mg ("law" : Str) = some (.ref f0)) (c : SaysW fa fn ts K) :
    ∃ fd : FuncData, (∀ (s : Shared) (v : Value), BindsTo s fd ⟨[v], []⟩ [("script", v)]) ∧ ∀ base : Heap, K.In base → base.Ns mainGlobals mg → FnG P w K mg base CX0 9 f0 fd ["script"] (spP ⟨P, w, K⟩ g_law) := by
  obtain ⟨fd__law_bag, F__law_bag⟩ := c.1.def_ 0 (d := d__law_bag) rfl
  have m__law_bag := He.glo_ok X G (c.1.fact 0 (f := .glo "_law_bag") rfl)
  obtain ⟨fd__law_take, F__law_take⟩ := c.1.def_ 1 (d := d__law_take) rfl
  have m__law_take := He.glo_ok X G (c.1.fact 1 (f := .glo "_law_take") rfl)
  obtain ⟨fd__law_row, F__law_row⟩ := c.1.def_ 2 (d := d__law_row) rfl
  have m__law_row := He.glo_ok X G (c.1.fact 2 (f := .glo "_law_row") rfl)
  obtain ⟨fd__law_pull, F__law_pull⟩ := c.1.def_ 3 (d := d__law_pull) rfl
  have m__law_pull := He.glo_ok X G (c.1.fact 3 (f := .glo "_law_pull") rfl)
  obtain ⟨fd__law_way, F__law_way⟩ := c.1.def_ 4 (d := d__law_way) rfl
  have m__law_way := He.glo_ok X G (c.1.fact 4 (f := .glo "_law_way") rfl)
  obtain ⟨fd__law_numbers, F__law_numbers⟩ := c.1.def_ 5 (d := d__law_numbers) rfl
  have m__law_numbers := He.glo_ok X G (c.1.fact 5 (f := .glo "_law_numbers") rfl)
  obtain ⟨fd__law_steps, F__law_steps⟩ := c.1.def_ 6 (d := d__law_steps) rfl
  have m__law_steps := He.glo_ok X G (c.1.fact 6 (f := .glo "_law_steps") rfl)
  obtain ⟨fd__law_off, F__law_off⟩ := c.1.def_ 7 (d := d__law_off) rfl
  have m__law_off := He.glo_ok X G (c.1.fact 7 (f := .glo "_law_off") rfl)
  obtain ⟨fd_is_whole, F_is_whole⟩ := c.1.def_ 8 (d := d_is_whole) rfl
  have m_is_whole := He.glo_ok X G (c.1.fact 8 (f := .glo "is_whole") rfl)
  obtain ⟨fd_is_between, F_is_between⟩ := c.1.def_ 9 (d := d_is_between) rfl
  have m_is_between := He.glo_ok X G (c.1.fact 9 (f := .glo "is_between") rfl)
  obtain ⟨fd_is_kinds, F_is_kinds⟩ := c.1.def_ 10 (d := d_is_kinds) rfl
  have m_is_kinds := He.glo_ok X G (c.1.fact 10 (f := .glo "is_kinds") rfl)
  obtain ⟨fd_check_kinds, F_check_kinds⟩ := c.1.def_ 11 (d := d_check_kinds) rfl
  have m_check_kinds := He.glo_ok X G (c.1.fact 11 (f := .glo "check_kinds") rfl)
  obtain ⟨fd_is_kind, F_is_kind⟩ := c.1.def_ 12 (d := d_is_kind) rfl
  have m_is_kind := He.glo_ok X G (c.1.fact 12 (f := .glo "is_kind") rfl)
  obtain ⟨fd_is_row, F_is_row⟩ := c.1.def_ 13 (d := d_is_row) rfl
  have m_is_row := He.glo_ok X G (c.1.fact 13 (f := .glo "is_row") rfl)
  obtain ⟨fd_check_row, F_check_row⟩ := c.1.def_ 14 (d := d_check_row) rfl
  have m_check_row := He.glo_ok X G (c.1.fact 14 (f := .glo "check_row") rfl)
  obtain ⟨fd_check_rowed, F_check_rowed⟩ := c.1.def_ 15 (d := d_check_rowed) rfl
  have m_check_rowed := He.glo_ok X G (c.1.fact 15 (f := .glo "check_rowed") rfl)
  obtain ⟨fd_is_string, F_is_string⟩ := c.1.def_ 16 (d := d_is_string) rfl
  have m_is_string := He.glo_ok X G (c.1.fact 16 (f := .glo "is_string") rfl)
  obtain ⟨fd_is_way, F_is_way⟩ := c.1.def_ 17 (d := d_is_way) rfl
  have m_is_way := He.glo_ok X G (c.1.fact 17 (f := .glo "is_way") rfl)
  obtain ⟨fd_check_way, F_check_way⟩ := c.1.def_ 18 (d := d_check_way) rfl
  have m_check_way := He.glo_ok X G (c.1.fact 18 (f := .glo "check_way") rfl)
  obtain ⟨fd_pairs_of, F_pairs_of⟩ := c.1.def_ 19 (d := d_pairs_of) rfl
  have m_pairs_of := He.glo_ok X G (c.1.fact 19 (f := .glo "pairs_of") rfl)
  obtain ⟨fd_shifted, F_shifted⟩ := c.1.def_ 20 (d := d_shifted) rfl
  have m_shifted := He.glo_ok X G (c.1.fact 20 (f := .glo "shifted") rfl)
  obtain ⟨fd_put_in_each, F_put_in_each⟩ := c.1.def_ 21 (d := d_put_in_each) rfl
  have m_put_in_each := He.glo_ok X G (c.1.fact 21 (f := .glo "put_in_each") rfl)
  obtain ⟨fd_done_by, F_done_by⟩ := c.1.def_ 22 (d := d_done_by) rfl
  have m_done_by := He.glo_ok X G (c.1.fact 22 (f := .glo "done_by") rfl)
  obtain ⟨fd_far_from, F_far_from⟩ := c.1.def_ 23 (d := d_far_from) rfl
  have m_far_from := He.glo_ok X G (c.1.fact 23 (f := .glo "far_from") rfl)
  obtain ⟨fd_spread_by, F_spread_by⟩ := c.1.def_ 24 (d := d_spread_by) rfl
  have m_spread_by := He.glo_ok X G (c.1.fact 24 (f := .glo "spread_by") rfl)
  obtain ⟨fd_how_far, F_how_far⟩ := c.1.def_ 25 (d := d_how_far) rfl
  have m_how_far := He.glo_ok X G (c.1.fact 25 (f := .glo "how_far") rfl)
  obtain ⟨fd_is_tuple_of, F_is_tuple_of⟩ := c.1.def_ 26 (d := d_is_tuple_of) rfl
  have m_is_tuple_of := He.glo_ok X G (c.1.fact 26 (f := .glo "is_tuple_of") rfl)
  obtain ⟨fd_is_amounts, F_is_amounts⟩ := c.1.def_ 27 (d := d_is_amounts) rfl
  have m_is_amounts := He.glo_ok X G (c.1.fact 27 (f := .glo "is_amounts") rfl)
  obtain ⟨fd_check_amounts, F_check_amounts⟩ := c.1.def_ 28 (d := d_check_amounts) rfl
  have m_check_amounts := He.glo_ok X G (c.1.fact 28 (f := .glo "check_amounts") rfl)
  obtain ⟨fd_check_amounted, F_check_amounted⟩ := c.1.def_ 29 (d := d_check_amounted) rfl
  have m_check_amounted := He.glo_ok X G (c.1.fact 29 (f := .glo "check_amounted") rfl)
  obtain ⟨fd_rows_by, F_rows_by⟩ := c.1.def_ 30 (d := d_rows_by) rfl
  have m_rows_by := He.glo_ok X G (c.1.fact 30 (f := .glo "rows_by") rfl)
  obtain ⟨fd_all_rows, F_all_rows⟩ := c.1.def_ 31 (d := d_all_rows) rfl
  have m_all_rows := He.glo_ok X G (c.1.fact 31 (f := .glo "all_rows") rfl)
  obtain ⟨fd__law_amounts, F__law_amounts⟩ := c.1.def_ 32 (d := d__law_amounts) rfl
  have m__law_amounts := He.glo_ok X G (c.1.fact 32 (f := .glo "_law_amounts") rfl)
  obtain ⟨fd__law_all_rows, F__law_all_rows⟩ := c.1.def_ 33 (d := d__law_all_rows) rfl
  have m__law_all_rows := He.glo_ok X G (c.1.fact 33 (f := .glo "_law_all_rows") rfl)
  obtain ⟨fd__law_mixed, F__law_mixed⟩ := c.1.def_ 34 (d := d__law_mixed) rfl
  have m__law_mixed := He.glo_ok X G (c.1.fact 34 (f := .glo "_law_mixed") rfl)
  obtain ⟨fd__law_right, F__law_right⟩ := c.1.def_ 35 (d := d__law_right) rfl
  have m__law_right := He.glo_ok X G (c.1.fact 35 (f := .glo "_law_right") rfl)
  obtain ⟨fd_law, F_law⟩ := c.1.def_ 36 (d := d_law) rfl
  have g_abs := He.free_ok X G (c.1.fact 37 (f := .free "abs") rfl)
  have g_all := He.free_ok X G (c.1.fact 38 (f := .free "all") rfl)
  have g_bool := He.free_ok X G (c.1.fact 39 (f := .free "bool") rfl)
  have g_divmod := He.free_ok X G (c.1.fact 40 (f := .free "divmod") rfl)
  have g_int := He.free_ok X G (c.1.fact 41 (f := .free "int") rfl)
  have g_isinstance := He.free_ok X G (c.1.fact 42 (f := .free "isinstance") rfl)
  have g_len := He.free_ok X G (c.1.fact 43 (f := .free "len") rfl)
  have g_list := He.free_ok X G (c.1.fact 44 (f := .free "list") rfl)
  have g_max := He.free_ok X G (c.1.fact 45 (f := .free "max") rfl)
  have g_min := He.free_ok X G (c.1.fact 46 (f := .free "min") rfl)
  have g_range := He.free_ok X G (c.1.fact 47 (f := .free "range") rfl)
  have g_repr := He.free_ok X G (c.1.fact 48 (f := .free "repr") rfl)
  have g_set := He.free_ok X G (c.1.fact 49 (f := .free "set") rfl)
  have g_sorted := He.free_ok X G (c.1.fact 50 (f := .free "sorted") rfl)
  have g_str := He.free_ok X G (c.1.fact 51 (f := .free "str") rfl)
  have g_sum := He.free_ok X G (c.1.fact 52 (f := .free "sum") rfl)
  have g_tuple := He.free_ok X G (c.1.fact 53 (f := .free "tuple") rfl)
  have G_FEWEST_KINDS : GloB P w K mg "FEWEST_KINDS" (.int 2) := glo_int X G (c.1.fact 54 (f := .int "FEWEST_KINDS" 2) rfl)
  have G_FLIP : GloB P w K mg "FLIP" (.str "flip") := glo_str X G (c.1.fact 55 (f := .str "FLIP" "flip") rfl)
  have G_FRONT : GloB P w K mg "FRONT" (.str "front") := glo_str X G (c.1.fact 56 (f := .str "FRONT" "front") rfl)
  have G_MOST_KINDS : GloB P w K mg "MOST_KINDS" (.int 4) := glo_int X G (c.1.fact 57 (f := .int "MOST_KINDS" 4) rfl)
  have G_MOST_PLACES : GloB P w K mg "MOST_PLACES" (.int 7) := glo_int X G (c.1.fact 58 (f := .int "MOST_PLACES" 7) rfl)
  have G_MOVE : GloB P w K mg "MOVE" (.str "move") := glo_str X G (c.1.fact 59 (f := .str "MOVE" "move") rfl)
  have G_NEAR : GloB P w K mg "NEAR" (.str "near") := glo_str X G (c.1.fact 60 (f := .str "NEAR" "near") rfl)
  have G_RING : GloB P w K mg "RING" (.str "ring") := glo_str X G (c.1.fact 61 (f := .str "RING" "ring") rfl)
  have G_TURNS : GloB P w K mg "TURNS" (.tuple [(.str "stretch"), (.str "flip")]) := glo_tup X G (tups_at c.2 0 rfl)
  have G_WAYS : GloB P w K mg "WAYS" (.tuple [(.str "any"), (.str "near"), (.str "move"), (.str "front")]) := glo_tup X G (tups_at c.2 1 rfl)
  have e := hfa.symm.trans (He.glo_ok X G (c.1.fact 36 (f := .glo "law") rfl))
  cases e
  refine ⟨fd_law, fun s v => FunD.bindsA (ps := ["script"]) F_law (fun _ _ _ _ _ _ us hl => match us, hl with | [_], _ => rfl) s [v] rfl, fun base _ _ => ?_⟩
  have o__law_bag := ok__law_bag (P := P) (w := w) (mg := mg) (base := base) F__law_bag g_abs g_int g_len
  have C__law_bag : CalB P w K mg base CX0 1 "_law_bag" (spN ⟨P, w, K⟩ .m g__law_bag) := cal_of F__law_bag m__law_bag (FunD.bindsN F__law_bag fun _ _ _ _ _ _ us hl => match us, hl with | [_, _], _ => rfl) o__law_bag
  have o__law_take := ok__law_take (P := P) (w := w) (mg := mg) (base := base) F__law_take g_divmod g_int
  have C__law_take : CalB P w K mg base CX0 1 "_law_take" (spM ⟨P, w, K⟩ g__law_take) := cal_of F__law_take m__law_take (FunD.bindsN F__law_take fun _ _ _ _ _ _ us hl => match us, hl with | [_, _], _ => rfl) o__law_take
  have o__law_row := ok__law_row (P := P) (w := w) (mg := mg) (base := base) F__law_row C__law_take g_range g_tuple
  have C__law_row : CalB P w K mg base CX0 2 "_law_row" (spM ⟨P, w, K⟩ g__law_row) := cal_of F__law_row m__law_row (FunD.bindsN F__law_row fun _ _ _ _ _ _ us hl => match us, hl with | [_, _], _ => rfl) o__law_row
  have o__law_pull := ok__law_pull (P := P) (w := w) (mg := mg) (base := base) F__law_pull C__law_take g_len
  have C__law_pull : CalB P w K mg base CX0 2 "_law_pull" (spM ⟨P, w, K⟩ g__law_pull) := cal_of F__law_pull m__law_pull (FunD.bindsN F__law_pull fun _ _ _ _ _ _ us hl => match us, hl with | [_, _], _ => rfl) o__law_pull
  have o__law_way := ok__law_way (P := P) (w := w) (mg := mg) (base := base) F__law_way C__law_pull
  have C__law_way : CalB P w K mg base CX0 3 "_law_way" (spM ⟨P, w, K⟩ g__law_way) := cal_of F__law_way m__law_way (FunD.bindsN F__law_way fun _ _ _ _ _ _ us hl => match us, hl with | [_], _ => rfl) o__law_way
  have o__law_numbers := ok__law_numbers (P := P) (w := w) (mg := mg) (base := base) F__law_numbers g_max g_range g_tuple
  have C__law_numbers : CalB P w K mg base CX0 1 "_law_numbers" (spP ⟨P, w, K⟩ g__law_numbers) := cal_of F__law_numbers m__law_numbers (FunD.bindsN F__law_numbers fun _ _ _ _ _ _ us hl => match us, hl with | [_], _ => rfl) o__law_numbers
  have o__law_steps := ok__law_steps (P := P) (w := w) (mg := mg) (base := base) F__law_steps g_len g_range
  have C__law_steps : CalB P w K mg base CX0 1 "_law_steps" (spP ⟨P, w, K⟩ g__law_steps) := cal_of F__law_steps m__law_steps (FunD.bindsN F__law_steps fun _ _ _ _ _ _ us hl => match us, hl with | [_, _], _ => rfl) o__law_steps
  have o__law_off := ok__law_off (P := P) (w := w) (mg := mg) (base := base) F__law_off C__law_steps
  have C__law_off : CalB P w K mg base CX0 2 "_law_off" (spP ⟨P, w, K⟩ g__law_off) := cal_of F__law_off m__law_off (FunD.bindsN F__law_off fun _ _ _ _ _ _ us hl => match us, hl with | [_, _], _ => rfl) o__law_off
  have o_is_whole := ok_is_whole (P := P) (w := w) (mg := mg) (base := base) F_is_whole g_bool g_int g_isinstance
  have C_is_whole : CalB P w K mg base CX0 1 "is_whole" (spP ⟨P, w, K⟩ g_is_whole) := cal_of F_is_whole m_is_whole (FunD.bindsN F_is_whole fun _ _ _ _ _ _ us hl => match us, hl with | [_], _ => rfl) o_is_whole
  have o_is_between := ok_is_between (P := P) (w := w) (mg := mg) (base := base) F_is_between C_is_whole
  have C_is_between : CalB P w K mg base CX0 2 "is_between" (spP ⟨P, w, K⟩ g_is_between) := cal_of F_is_between m_is_between (FunD.bindsN F_is_between fun _ _ _ _ _ _ us hl => match us, hl with | [_, _, _], _ => rfl) o_is_between
  have o_is_kinds := ok_is_kinds (P := P) (w := w) (mg := mg) (base := base) F_is_kinds C_is_between G_FEWEST_KINDS G_MOST_KINDS
  have C_is_kinds : CalB P w K mg base CX0 3 "is_kinds" (spP ⟨P, w, K⟩ g_is_kinds) := cal_of F_is_kinds m_is_kinds (FunD.bindsN F_is_kinds fun _ _ _ _ _ _ us hl => match us, hl with | [_], _ => rfl) o_is_kinds
  have o_check_kinds := ok_check_kinds (P := P) (w := w) (mg := mg) (base := base) F_check_kinds C_is_kinds
  have C_check_kinds : CalB P w K mg base CX0 4 "check_kinds" (spP ⟨P, w, K⟩ g_check_kinds) := cal_of F_check_kinds m_check_kinds (FunD.bindsN F_check_kinds fun _ _ _ _ _ _ us hl => match us, hl with | [_], _ => rfl) o_check_kinds
  have o_is_kind := ok_is_kind (P := P) (w := w) (mg := mg) (base := base) F_is_kind C_is_between
  have C_is_kind : CalB P w K mg base CX0 3 "is_kind" (spP ⟨P, w, K⟩ g_is_kind) := cal_of F_is_kind m_is_kind (FunD.bindsN F_is_kind fun _ _ _ _ _ _ us hl => match us, hl with | [_, _], _ => rfl) o_is_kind
  have o_is_row := ok_is_row (P := P) (w := w) (mg := mg) (base := base) F_is_row C_is_kind g_all g_isinstance g_len g_tuple G_MOST_PLACES
  have C_is_row : CalB P w K mg base CX0 4 "is_row" (spP ⟨P, w, K⟩ g_is_row) := cal_of F_is_row m_is_row (FunD.bindsN F_is_row fun _ _ _ _ _ _ us hl => match us, hl with | [_, _], _ => rfl) o_is_row
  have o_check_row := ok_check_row (P := P) (w := w) (mg := mg) (base := base) F_check_row C_is_row
  have C_check_row : CalB P w K mg base CX0 5 "check_row" (spP ⟨P, w, K⟩ g_check_row) := cal_of F_check_row m_check_row (FunD.bindsN F_check_row fun _ _ _ _ _ _ us hl => match us, hl with | [_, _], _ => rfl) o_check_row
  have o_check_rowed := ok_check_rowed (P := P) (w := w) (mg := mg) (base := base) F_check_rowed C_check_kinds C_check_row
  have C_check_rowed : CalB P w K mg base CX0 6 "check_rowed" (spP ⟨P, w, K⟩ g_check_rowed) := cal_of F_check_rowed m_check_rowed (FunD.bindsN F_check_rowed fun _ _ _ _ _ _ us hl => match us, hl with | [_, _], _ => rfl) o_check_rowed
  have o_is_string := ok_is_string (P := P) (w := w) (mg := mg) (base := base) F_is_string g_isinstance g_str
  have C_is_string : CalB P w K mg base CX0 1 "is_string" (spP ⟨P, w, K⟩ g_is_string) := cal_of F_is_string m_is_string (FunD.bindsN F_is_string fun _ _ _ _ _ _ us hl => match us, hl with | [_], _ => rfl) o_is_string
  have o_is_way := ok_is_way (P := P) (w := w) (mg := mg) (base := base) F_is_way C_is_string G_WAYS
  have C_is_way : CalB P w K mg base CX0 2 "is_way" (spP ⟨P, w, K⟩ g_is_way) := cal_of F_is_way m_is_way (FunD.bindsN F_is_way fun _ _ _ _ _ _ us hl => match us, hl with | [_], _ => rfl) o_is_way
  have o_check_way := ok_check_way (P := P) (w := w) (mg := mg) (base := base) F_check_way C_is_way
  have C_check_way : CalB P w K mg base CX0 3 "check_way" (spP ⟨P, w, K⟩ g_check_way) := cal_of F_check_way m_check_way (FunD.bindsN F_check_way fun _ _ _ _ _ _ us hl => match us, hl with | [_], _ => rfl) o_check_way
  have o_pairs_of := ok_pairs_of (P := P) (w := w) (mg := mg) (base := base) F_pairs_of g_len g_range G_FLIP G_FRONT G_MOVE G_NEAR G_RING
  have C_pairs_of : CalB P w K mg base CX0 1 "pairs_of" (spP ⟨P, w, K⟩ g_pairs_of) := cal_of F_pairs_of m_pairs_of (FunD.bindsN F_pairs_of fun _ _ _ _ _ _ us hl => match us, hl with | [_, _], _ => rfl) o_pairs_of
  have o_shifted := ok_shifted (P := P) (w := w) (mg := mg) (base := base) F_shifted 
  have C_shifted : CalB P w K mg base CX0 1 "shifted" (spP ⟨P, w, K⟩ g_shifted) := cal_of F_shifted m_shifted (FunD.bindsN F_shifted fun _ _ _ _ _ _ us hl => match us, hl with | [_, _, _], _ => rfl) o_shifted
  have o_put_in_each := ok_put_in_each (P := P) (w := w) (mg := mg) (base := base) F_put_in_each g_list g_tuple
  have C_put_in_each : CalB P w K mg base CX0 1 "put_in_each" (spP ⟨P, w, K⟩ g_put_in_each) := cal_of F_put_in_each m_put_in_each (FunD.bindsN F_put_in_each fun _ _ _ _ _ _ us hl => match us, hl with | [_, _, _], _ => rfl) o_put_in_each
  have o_done_by := ok_done_by (P := P) (w := w) (mg := mg) (base := base) F_done_by C_put_in_each C_shifted G_FRONT G_MOVE G_TURNS
  have C_done_by : CalB P w K mg base CX0 2 "done_by" (spP ⟨P, w, K⟩ g_done_by) := cal_of F_done_by m_done_by (FunD.bindsN F_done_by fun _ _ _ _ _ _ us hl => match us, hl with | [_, _, _], _ => rfl) o_done_by
  have o_far_from := ok_far_from (P := P) (w := w) (mg := mg) (base := base) F_far_from C_done_by C_pairs_of g_len
  have C_far_from : CalB P w K mg base CX0 3 "far_from" (spP ⟨P, w, K⟩ g_far_from) := cal_of F_far_from m_far_from (FunD.bindsN F_far_from fun _ _ _ _ _ _ us hl => match us, hl with | [_, _], _ => rfl) o_far_from
  have o_spread_by := ok_spread_by (P := P) (w := w) (mg := mg) (base := base) F_spread_by C_far_from g_max g_range g_tuple
  have C_spread_by : CalB P w K mg base CX0 4 "spread_by" (spP ⟨P, w, K⟩ g_spread_by) := cal_of F_spread_by m_spread_by (FunD.bindsN F_spread_by fun _ _ _ _ _ _ us hl => match us, hl with | [_, _], _ => rfl) o_spread_by
  have o_how_far := ok_how_far (P := P) (w := w) (mg := mg) (base := base) F_how_far C_check_rowed C_check_way C_spread_by
  have C_how_far : CalB P w K mg base CX0 7 "how_far" (spP ⟨P, w, K⟩ g_how_far) := cal_of F_how_far m_how_far (FunD.bindsN F_how_far fun _ _ _ _ _ _ us hl => match us, hl with | [_, _, _], _ => rfl) o_how_far
  have K0_how_far : CalKB P w K mg base CX0 7 "how_far" ["way", "row", "kinds"] [2, 1, 0] (spP ⟨P, w, K⟩ g_how_far) := calK_of F_how_far m_how_far (kbn_of [2, 1, 0] F_how_far fun _ _ _ _ _ _ ws hl => match ws, hl with | [_, _, _], _ => rfl) o_how_far
  have o_is_tuple_of := ok_is_tuple_of (P := P) (w := w) (mg := mg) (base := base) F_is_tuple_of g_isinstance g_len g_tuple
  have C_is_tuple_of : CalB P w K mg base CX0 1 "is_tuple_of" (spP ⟨P, w, K⟩ g_is_tuple_of) := cal_of F_is_tuple_of m_is_tuple_of (FunD.bindsN F_is_tuple_of fun _ _ _ _ _ _ us hl => match us, hl with | [_, _], _ => rfl) o_is_tuple_of
  have o_is_amounts := ok_is_amounts (P := P) (w := w) (mg := mg) (base := base) F_is_amounts C_is_between C_is_tuple_of g_all g_sum G_MOST_PLACES
  have C_is_amounts : CalB P w K mg base CX0 3 "is_amounts" (spP ⟨P, w, K⟩ g_is_amounts) := cal_of F_is_amounts m_is_amounts (FunD.bindsN F_is_amounts fun _ _ _ _ _ _ us hl => match us, hl with | [_, _], _ => rfl) o_is_amounts
  have o_check_amounts := ok_check_amounts (P := P) (w := w) (mg := mg) (base := base) F_check_amounts C_is_amounts
  have C_check_amounts : CalB P w K mg base CX0 4 "check_amounts" (spP ⟨P, w, K⟩ g_check_amounts) := cal_of F_check_amounts m_check_amounts (FunD.bindsN F_check_amounts fun _ _ _ _ _ _ us hl => match us, hl with | [_, _], _ => rfl) o_check_amounts
  have o_check_amounted := ok_check_amounted (P := P) (w := w) (mg := mg) (base := base) F_check_amounted C_check_amounts C_check_kinds
  have C_check_amounted : CalB P w K mg base CX0 5 "check_amounted" (spP ⟨P, w, K⟩ g_check_amounted) := cal_of F_check_amounted m_check_amounted (FunD.bindsN F_check_amounted fun _ _ _ _ _ _ us hl => match us, hl with | [_, _], _ => rfl) o_check_amounted
  have o_rows_by := ok_rows_by (P := P) (w := w) (mg := mg) (base := base) F_rows_by g_range g_sum
  have C_rows_by : CalB P w K mg base CX0 1 "rows_by" (spP ⟨P, w, K⟩ g_rows_by) := cal_of F_rows_by m_rows_by (FunD.bindsN F_rows_by fun _ _ _ _ _ _ us hl => match us, hl with | [_, _], _ => rfl) o_rows_by
  have o_all_rows := ok_all_rows (P := P) (w := w) (mg := mg) (base := base) F_all_rows C_check_amounted C_rows_by g_tuple
  have C_all_rows : CalB P w K mg base CX0 6 "all_rows" (spP ⟨P, w, K⟩ g_all_rows) := cal_of F_all_rows m_all_rows (FunD.bindsN F_all_rows fun _ _ _ _ _ _ us hl => match us, hl with | [_, _], _ => rfl) o_all_rows
  have o__law_amounts := ok__law_amounts (P := P) (w := w) (mg := mg) (base := base) F__law_amounts g_range g_tuple
  have C__law_amounts : CalB P w K mg base CX0 1 "_law_amounts" (spP ⟨P, w, K⟩ g__law_amounts) := cal_of F__law_amounts m__law_amounts (FunD.bindsN F__law_amounts fun _ _ _ _ _ _ us hl => match us, hl with | [_, _], _ => rfl) o__law_amounts
  have o__law_all_rows := ok__law_all_rows (P := P) (w := w) (mg := mg) (base := base) F__law_all_rows g_len g_range g_set g_sorted
  have C__law_all_rows : CalB P w K mg base CX0 1 "_law_all_rows" (spP ⟨P, w, K⟩ g__law_all_rows) := cal_of F__law_all_rows m__law_all_rows (FunD.bindsN F__law_all_rows fun _ _ _ _ _ _ us hl => match us, hl with | [_], _ => rfl) o__law_all_rows
  have o__law_mixed := ok__law_mixed (P := P) (w := w) (mg := mg) (base := base) F__law_mixed C__law_take g_len g_list g_tuple
  have C__law_mixed : CalB P w K mg base CX0 2 "_law_mixed" (spM ⟨P, w, K⟩ g__law_mixed) := cal_of F__law_mixed m__law_mixed (FunD.bindsN F__law_mixed fun _ _ _ _ _ _ us hl => match us, hl with | [_, _], _ => rfl) o__law_mixed
  have o__law_right := ok__law_right (P := P) (w := w) (mg := mg) (base := base) F__law_right C__law_all_rows C__law_amounts C__law_mixed C__law_numbers C__law_off C__law_row C__law_way C_all_rows C_how_far g_len g_list g_repr g_sum K0_how_far
  have C__law_right : CalB P w K mg base CX0 8 "_law_right" (spM ⟨P, w, K⟩ g__law_right) := cal_of F__law_right m__law_right (FunD.bindsN F__law_right fun _ _ _ _ _ _ us hl => match us, hl with | [_], _ => rfl) o__law_right
  exact ok_law F_law C__law_bag C__law_right g_all g_len g_max g_min g_range
theorem holds_of (pl : ∀ ns : List Int, ns.length ≤ 63 → g_law [.list (ns.map .int)] = .ok (.bool true)) : PySem.Challenge.rw_wrongplaces_k58_whole_spreads.Holds := by
  w_on; o_law
  refine HandSHeadRun.head_any (r := OpenLaw.row PySem.Challenge.rw_wrongplaces_k58_whole_spreads) (q := view (OpenLaw.row PySem.Challenge.rw_wrongplaces_k58_whole_spreads).prog [60]) (H := hk) (ob := ob) (M := 4000) (loose := loose) (d := HandSHeadRun.topDef (OpenLaw.row PySem.Challenge.rw_wrongplaces_k58_whole_spreads).prog 60) (kwd := []) ob_eq
    (by kernel_rfl) (fun s => by kernel_rfl) run (by kernel_rfl) (by kernel_rfl) (by kernel_rfl) (by rfl) (by first | assumption | decide +kernel) (by decide +kernel) ⟨rfl, rfl, rfl, rfl, rfl, by decide +kernel⟩ ?hw ?hc
  case hw => w_witness2
  case hc =>
    refine walkG (l := PySem.Challenge.rw_wrongplaces_k58_whole_spreads) (n := 63) (k := 9) (x := "script") rfl (by decide) (by kernel_rfl) ⟨rfl, by decide, by decide⟩ ?F
    intro w mg f0 h Y G hmg0
    obtain ⟨K, KX, c⟩ := Y
    have hmg : mg ("law" : PySem.Str) = some (.ref f0) := by
      have e : (HandSHeadRun.topDef (OpenLaw.row PySem.Challenge.rw_wrongplaces_k58_whole_spreads).prog 60).name = ("law" : PySem.Str) := by kernel_rfl
      rw [← e]
      exact hmg0
    obtain ⟨fd, hb, hF⟩ := facts (P := (PySem.Challenge.rw_wrongplaces_k58_whole_spreads).prog) (w := w) KX G hmg c
    exact ⟨K, fd, g_law, KX, hb, pl, hF⟩
end WP
end
section
set_option Elab.async false
set_option linter.all false
set_option maxRecDepth 100000
set_option autoImplicit false
/-! PL1: plain laws of the combinators. -/
namespace WP
open PySem PySem.Spec
@[simp] theorem items_list (xs : List D) : itemsOf (.list xs) = .ok xs := rfl
@[simp] theorem items_tup (xs : List D) : itemsOf (.tuple xs) = .ok xs := rfl
@[simp] theorem listOf_list (xs : List D) : listOf (.list xs) = some xs := rfl
@[simp] theorem listOf_tup (xs : List D) : listOf (.tuple xs) = some xs := rfl
@[simp] theorem add_int (a b : Int) : opAdd (.int a) (.int b) = some (.int (a + b)) := rfl
@[simp] theorem sub_int (a b : Int) : opSub (.int a) (.int b) = some (.int (a - b)) := rfl
@[simp] theorem neg_int (a : Int) : opNeg (.int a) = some (.int (-a)) := rfl
@[simp] theorem lt_int (a b : Int) : opLt (.int a) (.int b) = some (.bool (decide (a < b))) := rfl
@[simp] theorem le_int (a b : Int) : opLe (.int a) (.int b) = some (.bool (decide (a ≤ b))) := rfl
@[simp] theorem gt_int (a b : Int) : opGt (.int a) (.int b) = some (.bool (decide (b < a))) := rfl
@[simp] theorem ge_int (a b : Int) : opGe (.int a) (.int b) = some (.bool (decide (b ≤ a))) := rfl
@[simp] theorem len_list (xs : List D) : bLen (.list xs) = some (.int (xs.length : Nat)) := rfl
@[simp] theorem len_tup (xs : List D) : bLen (.tuple xs) = some (.int (xs.length : Nat)) := rfl
@[simp] theorem abs_int (a : Int) : bAbs (.int a) = some (.int (if a < 0 then -a else a)) := rfl
@[simp] theorem int_int (a : Int) : bInt (.int a) = some (.int a) := rfl
@[simp] theorem list_list (xs : List D) : bList (.list xs) = some (.list xs) := rfl
@[simp] theorem list_tup (xs : List D) : bList (.tuple xs) = some (.list xs) := rfl
@[simp] theorem tup_list (xs : List D) : bTuple (.list xs) = some (.tuple xs) := rfl
@[simp] theorem tup_tup (xs : List D) : bTuple (.tuple xs) = some (.tuple xs) := rfl
@[simp] theorem max2_int (a b : Int) : bMax2 (.int a) (.int b) = some (.int (if b > a then b else a)) := rfl
@[simp] theorem min2_int (a b : Int) : bMin2 (.int a) (.int b) = some (.int (if b < a then b else a)) := rfl
theorem mod_int {a b : Int} (h : 0 < b) : opMod (.int a) (.int b) = some (.int (a % b)) := by simp [eC, eVar, eFrz, bV, bS, aNil, aCons, aStar, eOp, eUn, eB, eM, eCall, eIf, eAnd, eOr, eNot, eChain, eTup, eLst, deref, derefs, valsOf, tB, tAnd, tOr, tNot, tTrue, iSeq, gName, gAll, gTup, ownL, ownT, gAt, eAppend, ePopK, ePopL, eSeqM, sNext, sSeq, sDrop, sRet, sRetN, sIf, sSet, sAsg, sNew, sNever, sFor, sRetOwn, entry, entryM, outOf, wipeE, backE, aPar, putE, sPar, eSl, pNo, pInt, eIsa, isaOf, one, two, opMod, h]
theorem div_int {a b : Int} (h : 0 < b) (h2 : b < 1073741824) : opDiv (.int a) (.int b) = some (.int (a / b)) := by simp [eC, eVar, eFrz, bV, bS, aNil, aCons, aStar, eOp, eUn, eB, eM, eCall, eIf, eAnd, eOr, eNot, eChain, eTup, eLst, deref, derefs, valsOf, tB, tAnd, tOr, tNot, tTrue, iSeq, gName, gAll, gTup, ownL, ownT, gAt, eAppend, ePopK, ePopL, eSeqM, sNext, sSeq, sDrop, sRet, sRetN, sIf, sSet, sAsg, sNew, sNever, sFor, sRetOwn, entry, entryM, outOf, wipeE, backE, aPar, putE, sPar, eSl, pNo, pInt, eIsa, isaOf, one, two, opDiv, h, h2]
theorem mul_int1 {a b : Int} (h : b.natAbs < 2 ^ 64) : opMulI (.int a) (.int b) = some (.int (a * b)) := by
  have : mulOk a b = true := by unfold mulOk big; simp [eC, eVar, eFrz, bV, bS, aNil, aCons, aStar, eOp, eUn, eB, eM, eCall, eIf, eAnd, eOr, eNot, eChain, eTup, eLst, deref, derefs, valsOf, tB, tAnd, tOr, tNot, tTrue, iSeq, gName, gAll, gTup, ownL, ownT, gAt, eAppend, ePopK, ePopL, eSeqM, sNext, sSeq, sDrop, sRet, sRetN, sIf, sSet, sAsg, sNew, sNever, sFor, sRetOwn, entry, entryM, outOf, wipeE, backE, aPar, putE, sPar, eSl, pNo, pInt, eIsa, isaOf, one, two, h]
  simp [eC, eVar, eFrz, bV, bS, aNil, aCons, aStar, eOp, eUn, eB, eM, eCall, eIf, eAnd, eOr, eNot, eChain, eTup, eLst, deref, derefs, valsOf, tB, tAnd, tOr, tNot, tTrue, iSeq, gName, gAll, gTup, ownL, ownT, gAt, eAppend, ePopK, ePopL, eSeqM, sNext, sSeq, sDrop, sRet, sRetN, sIf, sSet, sAsg, sNew, sNever, sFor, sRetOwn, entry, entryM, outOf, wipeE, backE, aPar, putE, sPar, eSl, pNo, pInt, eIsa, isaOf, one, two, opMulI, opMul, this]
theorem mul_int2 {a b : Int} (h : a.natAbs < 2 ^ 64) : opMulI (.int a) (.int b) = some (.int (a * b)) := by
  have : mulOk a b = true := by unfold mulOk big; simp [eC, eVar, eFrz, bV, bS, aNil, aCons, aStar, eOp, eUn, eB, eM, eCall, eIf, eAnd, eOr, eNot, eChain, eTup, eLst, deref, derefs, valsOf, tB, tAnd, tOr, tNot, tTrue, iSeq, gName, gAll, gTup, ownL, ownT, gAt, eAppend, ePopK, ePopL, eSeqM, sNext, sSeq, sDrop, sRet, sRetN, sIf, sSet, sAsg, sNew, sNever, sFor, sRetOwn, entry, entryM, outOf, wipeE, backE, aPar, putE, sPar, eSl, pNo, pInt, eIsa, isaOf, one, two, h]
  simp [eC, eVar, eFrz, bV, bS, aNil, aCons, aStar, eOp, eUn, eB, eM, eCall, eIf, eAnd, eOr, eNot, eChain, eTup, eLst, deref, derefs, valsOf, tB, tAnd, tOr, tNot, tTrue, iSeq, gName, gAll, gTup, ownL, ownT, gAt, eAppend, ePopK, ePopL, eSeqM, sNext, sSeq, sDrop, sRet, sRetN, sIf, sSet, sAsg, sNew, sNever, sFor, sRetOwn, entry, entryM, outOf, wipeE, backE, aPar, putE, sPar, eSl, pNo, pInt, eIsa, isaOf, one, two, opMulI, opMul, this]
theorem divmod_int' {a b : Int} (h : 0 < b) (h2 : b < 1073741824) : bDivmod (.int a) (.int b) = some (.tuple [.int (a / b), .int (a % b)]) := by simp [eC, eVar, eFrz, bV, bS, aNil, aCons, aStar, eOp, eUn, eB, eM, eCall, eIf, eAnd, eOr, eNot, eChain, eTup, eLst, deref, derefs, valsOf, tB, tAnd, tOr, tNot, tTrue, iSeq, gName, gAll, gTup, ownL, ownT, gAt, eAppend, ePopK, ePopL, eSeqM, sNext, sSeq, sDrop, sRet, sRetN, sIf, sSet, sAsg, sNew, sNever, sFor, sRetOwn, entry, entryM, outOf, wipeE, backE, aPar, putE, sPar, eSl, pNo, pInt, eIsa, isaOf, one, two, bDivmod, h, h2]
theorem seq_nx {f g : SF} {env e : Env} (h : f env = .ok (.nx, e)) : sSeq f g env = g e := by
  unfold sSeq; rw [h]; rfl
theorem seq_rt {f g : SF} {env e : Env} {d : D} (h : f env = .ok (.rt d, e)) : sSeq f g env = .ok (.rt d, e) := by
  unfold sSeq; rw [h]; rfl
section
variable {α β : Type}
/-- a comprehension that leaves all as it was -/
theorem compLoop_pure {own : List Nat} {g : GF} {t : TF} {f : EF} {E : Env} (ι : α → D) (p : α → Bool) (v : α → D) : ∀ (ys : List α) (acc : List D), (∀ y ∈ ys, ∃ e1 e2, g (ι y) E = .ok e1 ∧ t e1 = .ok (p y, e2) ∧ (p y = true → ∃ e3, f e2 = .ok (v y, e3) ∧ wipeE e3 own = E) ∧ (p y = false → wipeE e2 own = E)) →
    compLoop own g t f (ys.map ι) acc E = .ok (acc ++ (ys.filter p).map v, E)
  | [], acc, _ => by simp [eC, eVar, eFrz, bV, bS, aNil, aCons, aStar, eOp, eUn, eB, eM, eCall, eIf, eAnd, eOr, eNot, eChain, eTup, eLst, deref, derefs, valsOf, tB, tAnd, tOr, tNot, tTrue, iSeq, gName, gAll, gTup, ownL, ownT, gAt, eAppend, ePopK, ePopL, eSeqM, sNext, sSeq, sDrop, sRet, sRetN, sIf, sSet, sAsg, sNew, sNever, sFor, sRetOwn, entry, entryM, outOf, wipeE, backE, aPar, putE, sPar, eSl, pNo, pInt, eIsa, isaOf, one, two, compLoop]
  | y :: ys, acc, h => by
    obtain ⟨e1, e2, h1, h2, h3, h4⟩ := h y List.mem_cons_self
    have ih := fun acc => compLoop_pure ι p v ys acc fun z hz => h z (List.mem_cons_of_mem _ hz)
    cases hp : p y with
    | true =>
      obtain ⟨e3, h5, h6⟩ := h3 hp
      simp only [List.map_cons, compLoop, h1, h2, hp, ok_bind, if_true, h5, h6, ih, List.filter_cons, List.append_assoc, List.singleton_append]
    | false =>
      simp only [List.map_cons, compLoop, h1, h2, hp, ok_bind, Bool.false_eq_true, if_false, h4 hp, ih, List.filter_cons]
theorem eComp_pure {own : List Nat} {it : IF} {g : GF} {t : TF} {f : EF} {env env1 : Env} (ι : α → D) (p : α → Bool) (v : α → D) {ys : List α} (hi : it env = .ok (ys.map ι, env1)) (hl : ys.length ≤ 16777216)
    (h : ∀ y ∈ ys, ∃ e1 e2, g (ι y) (wipeE env1 own) = .ok e1 ∧ t e1 = .ok (p y, e2) ∧ (p y = true → ∃ e3, f e2 = .ok (v y, e3) ∧ wipeE e3 own = wipeE env1 own) ∧ (p y = false → wipeE e2 own = wipeE env1 own)) :
    eComp own it g t f env = .ok (.list ((ys.filter p).map v), backE env1 (wipeE env1 own) own) := by
  unfold eComp
  rw [hi, ok_bind]
  dsimp only
  rw [List.length_map, if_pos hl, compLoop_pure ι p v ys [] h]
  simp [eC, eVar, eFrz, bV, bS, aNil, aCons, aStar, eOp, eUn, eB, eM, eCall, eIf, eAnd, eOr, eNot, eChain, eTup, eLst, deref, derefs, valsOf, tB, tAnd, tOr, tNot, tTrue, iSeq, gName, gAll, gTup, ownL, ownT, gAt, eAppend, ePopK, ePopL, eSeqM, sNext, sSeq, sDrop, sRet, sRetN, sIf, sSet, sAsg, sNew, sNever, sFor, sRetOwn, entry, entryM, outOf, wipeE, backE, aPar, putE, sPar, eSl, pNo, pInt, eIsa, isaOf, one, two, noExc]
/-- .. without a test -/
theorem eComp_map {own : List Nat} {it : IF} {g : GF} {f : EF} {env env1 : Env} (ι : α → D) (v : α → D) {ys : List α} (hi : it env = .ok (ys.map ι, env1)) (hl : ys.length ≤ 16777216)
    (h : ∀ y ∈ ys, ∃ e1 e3, g (ι y) (wipeE env1 own) = .ok e1 ∧ f e1 = .ok (v y, e3) ∧ wipeE e3 own = wipeE env1 own) :
    eComp own it g tTrue f env = .ok (.list (ys.map v), backE env1 (wipeE env1 own) own) := by
  have := eComp_pure (t := tTrue) (f := f) ι (fun _ => true) v hi hl fun y hy => by
    obtain ⟨e1, e3, h1, h2, h3⟩ := h y hy
    exact ⟨e1, e1, h1, rfl, fun _ => ⟨e3, h2, h3⟩, fun z => by cases z⟩
  rw [this, List.filter_eq_self.mpr (fun _ _ => rfl)]
theorem compIn_pure {own2 : List Nat} {g : GF} {t : TF} {f : EF} {E : Env} (ι : α → D) (p : α → Bool) (v : α → D) : ∀ (ys : List α) (acc : List D), acc.length + (ys.filter p).length ≤ 16777216 →
    (∀ y ∈ ys, ∃ e1 e2, g (ι y) E = .ok e1 ∧ t e1 = .ok (p y, e2) ∧ (p y = true → ∃ e3, f e2 = .ok (v y, e3) ∧ wipeE e3 own2 = E) ∧ (p y = false → wipeE e2 own2 = E)) →
    compIn own2 g t f (ys.map ι) acc E = .ok (acc ++ (ys.filter p).map v, E)
  | [], acc, _, _ => by simp [eC, eVar, eFrz, bV, bS, aNil, aCons, aStar, eOp, eUn, eB, eM, eCall, eIf, eAnd, eOr, eNot, eChain, eTup, eLst, deref, derefs, valsOf, tB, tAnd, tOr, tNot, tTrue, iSeq, gName, gAll, gTup, ownL, ownT, gAt, eAppend, ePopK, ePopL, eSeqM, sNext, sSeq, sDrop, sRet, sRetN, sIf, sSet, sAsg, sNew, sNever, sFor, sRetOwn, entry, entryM, outOf, wipeE, backE, aPar, putE, sPar, eSl, pNo, pInt, eIsa, isaOf, one, two, compIn]
  | y :: ys, acc, hl, h => by
    obtain ⟨e1, e2, h1, h2, h3, h4⟩ := h y List.mem_cons_self
    have ih := fun acc hl => compIn_pure ι p v ys acc hl fun z hz => h z (List.mem_cons_of_mem _ hz)
    cases hp : p y with
    | true =>
      obtain ⟨e3, h5, h6⟩ := h3 hp
      rw [List.filter_cons, hp, if_pos rfl, List.length_cons] at hl
      simp only [List.map_cons, compIn, h1, h2, hp, ok_bind, if_true, h5, h6]
      rw [if_pos (by omega), ih _ (by rw [List.length_append, List.length_singleton]; omega), List.filter_cons, hp, if_pos rfl, List.map_cons, List.append_assoc, List.singleton_append]
    | false =>
      rw [List.filter_cons, hp, if_neg (by decide)] at hl
      simp only [List.map_cons, compIn, h1, h2, hp, ok_bind, Bool.false_eq_true, if_false, h4 hp]
      rw [ih _ hl, List.filter_cons, hp, if_neg (by decide)]
theorem compOut_pure {own own2 : List Nat} {g g2 : GF} {t t2 : TF} {it2 : IF} {f : EF} {E : Env} (ι : α → D) (κ : β → D) (p : α → Bool) (zs : α → List β) (q : α → β → Bool) (v : α → β → D) : ∀ (ys : List α) (acc : List D),
    acc.length + (((ys.filter p).flatMap fun y => ((zs y).filter (q y)).map (v y)).length) ≤ 16777216 →
    (∀ y ∈ ys, ∃ e1 e2, g (ι y) E = .ok e1 ∧ t e1 = .ok (p y, e2) ∧ (p y = false → wipeE e2 own = E) ∧ (p y = true → ∃ e3, it2 e2 = .ok ((zs y).map κ, e3) ∧ wipeE (wipeE e3 own2) own = E ∧
      ∀ z ∈ zs y, ∃ f1 f2, g2 (κ z) (wipeE e3 own2) = .ok f1 ∧ t2 f1 = .ok (q y z, f2) ∧ (q y z = true → ∃ f3, f f2 = .ok (v y z, f3) ∧ wipeE f3 own2 = wipeE e3 own2) ∧ (q y z = false → wipeE f2 own2 = wipeE e3 own2))) →
    compOut own own2 g t it2 g2 t2 f (ys.map ι) acc E = .ok (acc ++ ((ys.filter p).flatMap fun y => ((zs y).filter (q y)).map (v y)), E)
  | [], acc, _, _ => by simp [eC, eVar, eFrz, bV, bS, aNil, aCons, aStar, eOp, eUn, eB, eM, eCall, eIf, eAnd, eOr, eNot, eChain, eTup, eLst, deref, derefs, valsOf, tB, tAnd, tOr, tNot, tTrue, iSeq, gName, gAll, gTup, ownL, ownT, gAt, eAppend, ePopK, ePopL, eSeqM, sNext, sSeq, sDrop, sRet, sRetN, sIf, sSet, sAsg, sNew, sNever, sFor, sRetOwn, entry, entryM, outOf, wipeE, backE, aPar, putE, sPar, eSl, pNo, pInt, eIsa, isaOf, one, two, compOut]
  | y :: ys, acc, hl, h => by
    obtain ⟨e1, e2, h1, h2, h4, h3⟩ := h y List.mem_cons_self
    have ih := fun acc hl => compOut_pure ι κ p zs q v ys acc hl fun z hz => h z (List.mem_cons_of_mem _ hz)
    cases hp : p y with
    | true =>
      obtain ⟨e3, h5, h6, h7⟩ := h3 hp
      rw [List.filter_cons, hp, if_pos rfl, List.flatMap_cons, List.length_append, List.length_map] at hl
      simp only [List.map_cons, compOut, h1, h2, hp, ok_bind, if_true, h5]
      rw [compIn_pure κ (q y) (v y) (zs y) acc (by omega) h7, ok_bind]
      dsimp only
      rw [h6, ih _ (by rw [List.length_append, List.length_map]; omega), List.filter_cons, hp, if_pos rfl, List.flatMap_cons, List.append_assoc]
    | false =>
      rw [List.filter_cons, hp, if_neg (by decide)] at hl
      simp only [List.map_cons, compOut, h1, h2, hp, ok_bind, Bool.false_eq_true, if_false, h4 hp]
      rw [ih _ hl, List.filter_cons, hp, if_neg (by decide)]
theorem eComp2_pure {own own2 : List Nat} {it it2 : IF} {g g2 : GF} {t t2 : TF} {f : EF} {env env1 : Env} (ι : α → D) (κ : β → D) (p : α → Bool) (zs : α → List β) (q : α → β → Bool) (v : α → β → D) {ys : List α} (hi : it env = .ok (ys.map ι, env1))
    (hl : (((ys.filter p).flatMap fun y => ((zs y).filter (q y)).map (v y)).length) ≤ 16777216)
    (h : ∀ y ∈ ys, ∃ e1 e2, g (ι y) (wipeE env1 own) = .ok e1 ∧ t e1 = .ok (p y, e2) ∧ (p y = false → wipeE e2 own = wipeE env1 own) ∧ (p y = true → ∃ e3, it2 e2 = .ok ((zs y).map κ, e3) ∧ wipeE (wipeE e3 own2) own = wipeE env1 own ∧
      ∀ z ∈ zs y, ∃ f1 f2, g2 (κ z) (wipeE e3 own2) = .ok f1 ∧ t2 f1 = .ok (q y z, f2) ∧ (q y z = true → ∃ f3, f f2 = .ok (v y z, f3) ∧ wipeE f3 own2 = wipeE e3 own2) ∧ (q y z = false → wipeE f2 own2 = wipeE e3 own2))) :
    eComp2 own own2 it g t it2 g2 t2 f env = .ok (.list ((ys.filter p).flatMap fun y => ((zs y).filter (q y)).map (v y)), backE env1 (wipeE env1 own) own) := by
  unfold eComp2
  rw [hi, ok_bind]
  dsimp only
  rw [compOut_pure ι κ p zs q v ys [] (by simpa [eC, eVar, eFrz, bV, bS, aNil, aCons, aStar, eOp, eUn, eB, eM, eCall, eIf, eAnd, eOr, eNot, eChain, eTup, eLst, deref, derefs, valsOf, tB, tAnd, tOr, tNot, tTrue, iSeq, gName, gAll, gTup, ownL, ownT, gAt, eAppend, ePopK, ePopL, eSeqM, sNext, sSeq, sDrop, sRet, sRetN, sIf, sSet, sAsg, sNew, sNever, sFor, sRetOwn, entry, entryM, outOf, wipeE, backE, aPar, putE, sPar, eSl, pNo, pInt, eIsa, isaOf, one, two] using hl) h]
  simp [eC, eVar, eFrz, bV, bS, aNil, aCons, aStar, eOp, eUn, eB, eM, eCall, eIf, eAnd, eOr, eNot, eChain, eTup, eLst, deref, derefs, valsOf, tB, tAnd, tOr, tNot, tTrue, iSeq, gName, gAll, gTup, ownL, ownT, gAt, eAppend, ePopK, ePopL, eSeqM, sNext, sSeq, sDrop, sRet, sRetN, sIf, sSet, sAsg, sNew, sNever, sFor, sRetOwn, entry, entryM, outOf, wipeE, backE, aPar, putE, sPar, eSl, pNo, pInt, eIsa, isaOf, one, two, noExc]
/-- for -/
theorem forLoop_inv {fg : List Nat} {g : GF} {b : SF} (ι : α → D) (I : List α → Env → Prop) : ∀ (rest done : List α) (e : Env), (∀ d y r e, d ++ y :: r = done ++ rest → I d e → ∃ e1 e2, g (ι y) e = .ok e1 ∧ b e1 = .ok (.nx, e2) ∧ I (d ++ [y]) (wipeE e2 fg)) → I done e →
    ∃ e', forLoop fg g b (rest.map ι) e = .ok (.nx, e') ∧ I (done ++ rest) e'
  | [], done, e, _, h0 => ⟨e, rfl, by rw [List.append_nil]; exact h0⟩
  | y :: rest, done, e, h, h0 => by
    obtain ⟨e1, e2, h1, h2, h3⟩ := h done y rest e rfl h0
    obtain ⟨e', h4, h5⟩ := forLoop_inv ι I rest (done ++ [y]) (wipeE e2 fg) (fun d y r e he => h d y r e (by rw [he]; simp [eC, eVar, eFrz, bV, bS, aNil, aCons, aStar, eOp, eUn, eB, eM, eCall, eIf, eAnd, eOr, eNot, eChain, eTup, eLst, deref, derefs, valsOf, tB, tAnd, tOr, tNot, tTrue, iSeq, gName, gAll, gTup, ownL, ownT, gAt, eAppend, ePopK, ePopL, eSeqM, sNext, sSeq, sDrop, sRet, sRetN, sIf, sSet, sAsg, sNew, sNever, sFor, sRetOwn, entry, entryM, outOf, wipeE, backE, aPar, putE, sPar, eSl, pNo, pInt, eIsa, isaOf, one, two])) h3
    refine ⟨e', ?_, by simpa [eC, eVar, eFrz, bV, bS, aNil, aCons, aStar, eOp, eUn, eB, eM, eCall, eIf, eAnd, eOr, eNot, eChain, eTup, eLst, deref, derefs, valsOf, tB, tAnd, tOr, tNot, tTrue, iSeq, gName, gAll, gTup, ownL, ownT, gAt, eAppend, ePopK, ePopL, eSeqM, sNext, sSeq, sDrop, sRet, sRetN, sIf, sSet, sAsg, sNew, sNever, sFor, sRetOwn, entry, entryM, outOf, wipeE, backE, aPar, putE, sPar, eSl, pNo, pInt, eIsa, isaOf, one, two] using h5⟩
    simp only [List.map_cons, forLoop, h1, h2, ok_bind, h4]
theorem sFor_inv {fg : List Nat} {it : IF} {g : GF} {b : SF} {env env1 : Env} (ι : α → D) (I : List α → Env → Prop) {ys : List α} (hi : it env = .ok (ys.map ι, env1)) (h0 : I [] env1)
    (h : ∀ d y r e, d ++ y :: r = ys → I d e → ∃ e1 e2, g (ι y) e = .ok e1 ∧ b e1 = .ok (.nx, e2) ∧ I (d ++ [y]) (wipeE e2 fg)) : ∃ e', sFor fg it g b env = .ok (.nx, e') ∧ I ys e' := by
  obtain ⟨e', h1, h2⟩ := forLoop_inv (fg := fg) (g := g) (b := b) ι I ys [] env1 h h0
  exact ⟨e', by unfold sFor; rw [hi]; exact h1, h2⟩
/-- while: k falls -/
theorem whileLoop_inv {fg : List Nat} {t : TF} {b : SF} (I : Nat → Env → Prop) (Q : Env → Prop) (h : ∀ k e, I k e → ∃ c e1, t e = .ok (c, e1) ∧ (c = false → Q e1) ∧ (c = true → ∃ e2 k', b e1 = .ok (.nx, e2) ∧ k' < k ∧ I k' (wipeE e2 fg))) :
    ∀ (n k : Nat) (e : Env), k < n → I k e → ∃ e', whileLoop fg t b n e = .ok (.nx, e') ∧ Q e'
  | 0, _, _, hn, _ => absurd hn (Nat.not_lt_zero _)
  | n + 1, k, e, hn, h0 => by
    obtain ⟨c, e1, h1, h2, h3⟩ := h k e h0
    cases c with
    | false => exact ⟨e1, by simp [eC, eVar, eFrz, bV, bS, aNil, aCons, aStar, eOp, eUn, eB, eM, eCall, eIf, eAnd, eOr, eNot, eChain, eTup, eLst, deref, derefs, valsOf, tB, tAnd, tOr, tNot, tTrue, iSeq, gName, gAll, gTup, ownL, ownT, gAt, eAppend, ePopK, ePopL, eSeqM, sNext, sSeq, sDrop, sRet, sRetN, sIf, sSet, sAsg, sNew, sNever, sFor, sRetOwn, entry, entryM, outOf, wipeE, backE, aPar, putE, sPar, eSl, pNo, pInt, eIsa, isaOf, one, two, whileLoop, h1], h2 rfl⟩
    | true =>
      obtain ⟨e2, k', h4, h5, h6⟩ := h3 rfl
      obtain ⟨e', h7, h8⟩ := whileLoop_inv I Q h n k' (wipeE e2 fg) (by omega) h6
      exact ⟨e', by simp only [whileLoop, h1, ok_bind, if_true, h4, h7], h8⟩
theorem sWhile_inv {fg : List Nat} {t : TF} {b : SF} {env : Env} (I : Nat → Env → Prop) (Q : Env → Prop) (k : Nat) (hk : k < 16777216) (h0 : I k env) (h : ∀ k e, I k e → ∃ c e1, t e = .ok (c, e1) ∧ (c = false → Q e1) ∧ (c = true → ∃ e2 k', b e1 = .ok (.nx, e2) ∧ k' < k ∧ I k' (wipeE e2 fg))) :
    ∃ e', sWhile fg fuel t b env = .ok (.nx, e') ∧ Q e' := whileLoop_inv I Q h _ k env hk h0
end
end WP
end
section
set_option Elab.async false
set_option linter.all false
set_option maxRecDepth 100000
set_option autoImplicit false
/-! PL2: rows and dicts by rows. -/
namespace WP
open PySem PySem.Spec
abbrev Row := List Int
def rowD (r : Row) : D := .tuple (r.map .int)
def intD (i : Int) : D := .int i
theorem eqv_ints : ∀ a b : Row, PyData.eqvAll (a.map .int) (b.map .int) = decide (a = b)
  | [], [] => by simp [eC, eVar, eFrz, bV, bS, aNil, aCons, aStar, eOp, eUn, eB, eM, eCall, eIf, eAnd, eOr, eNot, eChain, eTup, eLst, deref, derefs, valsOf, tB, tAnd, tOr, tNot, tTrue, iSeq, gName, gAll, gTup, ownL, ownT, gAt, eAppend, ePopK, ePopL, eSeqM, sNext, sSeq, sDrop, sRet, sRetN, sIf, sSet, sAsg, sNew, sNever, sFor, sRetOwn, entry, entryM, outOf, wipeE, backE, aPar, putE, sPar, eSl, pNo, pInt, eIsa, isaOf, one, two, PyData.eqvAll]
  | [], _ :: _ => by simp [eC, eVar, eFrz, bV, bS, aNil, aCons, aStar, eOp, eUn, eB, eM, eCall, eIf, eAnd, eOr, eNot, eChain, eTup, eLst, deref, derefs, valsOf, tB, tAnd, tOr, tNot, tTrue, iSeq, gName, gAll, gTup, ownL, ownT, gAt, eAppend, ePopK, ePopL, eSeqM, sNext, sSeq, sDrop, sRet, sRetN, sIf, sSet, sAsg, sNew, sNever, sFor, sRetOwn, entry, entryM, outOf, wipeE, backE, aPar, putE, sPar, eSl, pNo, pInt, eIsa, isaOf, one, two, PyData.eqvAll]
  | _ :: _, [] => by simp [eC, eVar, eFrz, bV, bS, aNil, aCons, aStar, eOp, eUn, eB, eM, eCall, eIf, eAnd, eOr, eNot, eChain, eTup, eLst, deref, derefs, valsOf, tB, tAnd, tOr, tNot, tTrue, iSeq, gName, gAll, gTup, ownL, ownT, gAt, eAppend, ePopK, ePopL, eSeqM, sNext, sSeq, sDrop, sRet, sRetN, sIf, sSet, sAsg, sNew, sNever, sFor, sRetOwn, entry, entryM, outOf, wipeE, backE, aPar, putE, sPar, eSl, pNo, pInt, eIsa, isaOf, one, two, PyData.eqvAll]
  | x :: a, y :: b => by
    simp only [List.map_cons, PyData.eqvAll, PyData.eqv, eqv_ints a b]
    by_cases h : x = y <;> by_cases h' : a = b <;> simp [eC, eVar, eFrz, bV, bS, aNil, aCons, aStar, eOp, eUn, eB, eM, eCall, eIf, eAnd, eOr, eNot, eChain, eTup, eLst, deref, derefs, valsOf, tB, tAnd, tOr, tNot, tTrue, iSeq, gName, gAll, gTup, ownL, ownT, gAt, eAppend, ePopK, ePopL, eSeqM, sNext, sSeq, sDrop, sRet, sRetN, sIf, sSet, sAsg, sNew, sNever, sFor, sRetOwn, entry, entryM, outOf, wipeE, backE, aPar, putE, sPar, eSl, pNo, pInt, eIsa, isaOf, one, two, h, h']
@[simp] theorem eqv_row (a b : Row) : PyData.eqv (rowD a) (rowD b) = decide (a = b) := by
  simp only [rowD, PyData.eqv]; exact eqv_ints a b
@[simp] theorem eqv_int (a b : Int) : PyData.eqv (.int a) (.int b) = decide (a = b) := by
  by_cases h : a = b <;> simp [eC, eVar, eFrz, bV, bS, aNil, aCons, aStar, eOp, eUn, eB, eM, eCall, eIf, eAnd, eOr, eNot, eChain, eTup, eLst, deref, derefs, valsOf, tB, tAnd, tOr, tNot, tTrue, iSeq, gName, gAll, gTup, ownL, ownT, gAt, eAppend, ePopK, ePopL, eSeqM, sNext, sSeq, sDrop, sRet, sRetN, sIf, sSet, sAsg, sNew, sNever, sFor, sRetOwn, entry, entryM, outOf, wipeE, backE, aPar, putE, sPar, eSl, pNo, pInt, eIsa, isaOf, one, two, PyData.eqv, h]
@[simp] theorem eqv_str (a b : Str) : PyData.eqv (.str a) (.str b) = decide (a = b) := by
  by_cases h : a = b <;> simp [eC, eVar, eFrz, bV, bS, aNil, aCons, aStar, eOp, eUn, eB, eM, eCall, eIf, eAnd, eOr, eNot, eChain, eTup, eLst, deref, derefs, valsOf, tB, tAnd, tOr, tNot, tTrue, iSeq, gName, gAll, gTup, ownL, ownT, gAt, eAppend, ePopK, ePopL, eSeqM, sNext, sSeq, sDrop, sRet, sRetN, sIf, sSet, sAsg, sNew, sNever, sFor, sRetOwn, entry, entryM, outOf, wipeE, backE, aPar, putE, sPar, eSl, pNo, pInt, eIsa, isaOf, one, two, PyData.eqv, h]
@[simp] theorem keyT_row (r : Row) : keyT (rowD r) = true := by
  show (r.map PyData.int).all keyF = true
  simp [eC, eVar, eFrz, bV, bS, aNil, aCons, aStar, eOp, eUn, eB, eM, eCall, eIf, eAnd, eOr, eNot, eChain, eTup, eLst, deref, derefs, valsOf, tB, tAnd, tOr, tNot, tTrue, iSeq, gName, gAll, gTup, ownL, ownT, gAt, eAppend, ePopK, ePopL, eSeqM, sNext, sSeq, sDrop, sRet, sRetN, sIf, sSet, sAsg, sNew, sNever, sFor, sRetOwn, entry, entryM, outOf, wipeE, backE, aPar, putE, sPar, eSl, pNo, pInt, eIsa, isaOf, one, two, List.all_eq_true, keyF]
theorem okN_ints (n : Nat) (r : Row) : (r.map PyData.int).all (okN n) = true := by
  rw [List.all_eq_true]
  intro x hx
  obtain ⟨i, _, rfl⟩ := List.mem_map.mp hx
  cases n <;> rfl
@[simp] theorem okD_row (r : Row) : okD (rowD r) = true := okN_ints 39 r
@[simp] theorem okD_int (i : Int) : okD (.int i) = true := rfl
@[simp] theorem okD_str (x : Str) : okD (.str x) = true := rfl
@[simp] theorem okD_bool (b : Bool) : okD (.bool b) = true := rfl
theorem okN_rows (n : Nat) (rs : List Row) : (rs.map rowD).all (okN (n + 1)) = true := by
  rw [List.all_eq_true]
  intro x hx
  obtain ⟨i, _, rfl⟩ := List.mem_map.mp hx
  exact okN_ints n i
@[simp] theorem okD_rows (rs : List Row) : okD (.list (rs.map rowD)) = true := okN_rows 38 rs
abbrev Tab := List (Row × Int)
def kvD (K : Tab) : List (D × D) := K.map fun p => (rowD p.1, PyData.int p.2)
@[simp] theorem kvD_len (K : Tab) : (kvD K).length = K.length := by simp [eC, eVar, eFrz, bV, bS, aNil, aCons, aStar, eOp, eUn, eB, eM, eCall, eIf, eAnd, eOr, eNot, eChain, eTup, eLst, deref, derefs, valsOf, tB, tAnd, tOr, tNot, tTrue, iSeq, gName, gAll, gTup, ownL, ownT, gAt, eAppend, ePopK, ePopL, eSeqM, sNext, sSeq, sDrop, sRet, sRetN, sIf, sSet, sAsg, sNew, sNever, sFor, sRetOwn, entry, entryM, outOf, wipeE, backE, aPar, putE, sPar, eSl, pNo, pInt, eIsa, isaOf, one, two, kvD]
theorem get_kv (r : Row) : ∀ K : Tab, dGet (kvD K) (rowD r) = (K.lookup r).map .int
  | [] => rfl
  | (s, d) :: K => by
    have ih := get_kv r K
    unfold dGet kvD at ih ⊢
    rw [List.map_cons, List.find?_cons, List.lookup_cons]
    dsimp only
    rw [eqv_row]
    by_cases h : s = r
    · subst h; simp [eC, eVar, eFrz, bV, bS, aNil, aCons, aStar, eOp, eUn, eB, eM, eCall, eIf, eAnd, eOr, eNot, eChain, eTup, eLst, deref, derefs, valsOf, tB, tAnd, tOr, tNot, tTrue, iSeq, gName, gAll, gTup, ownL, ownT, gAt, eAppend, ePopK, ePopL, eSeqM, sNext, sSeq, sDrop, sRet, sRetN, sIf, sSet, sAsg, sNew, sNever, sFor, sRetOwn, entry, entryM, outOf, wipeE, backE, aPar, putE, sPar, eSl, pNo, pInt, eIsa, isaOf, one, two]
    · rw [decide_eq_false h]
      have h' : (r == s) = false := by simpa [eC, eVar, eFrz, bV, bS, aNil, aCons, aStar, eOp, eUn, eB, eM, eCall, eIf, eAnd, eOr, eNot, eChain, eTup, eLst, deref, derefs, valsOf, tB, tAnd, tOr, tNot, tTrue, iSeq, gName, gAll, gTup, ownL, ownT, gAt, eAppend, ePopK, ePopL, eSeqM, sNext, sSeq, sDrop, sRet, sRetN, sIf, sSet, sAsg, sNew, sNever, sFor, sRetOwn, entry, entryM, outOf, wipeE, backE, aPar, putE, sPar, eSl, pNo, pInt, eIsa, isaOf, one, two] using fun e => h e.symm
      rw [h']
      exact ih
theorem has_kv (r : Row) (K : Tab) : ((kvD K).any fun p => PyData.eqv p.1 (rowD r)) = (K.lookup r).isSome := by
  induction K with
  | nil => rfl
  | cons p K ih =>
    obtain ⟨s, d⟩ := p
    unfold kvD at ih ⊢
    rw [List.map_cons, List.any_cons, List.lookup_cons, ih]
    dsimp only
    rw [eqv_row]
    by_cases h : s = r
    · subst h; simp [eC, eVar, eFrz, bV, bS, aNil, aCons, aStar, eOp, eUn, eB, eM, eCall, eIf, eAnd, eOr, eNot, eChain, eTup, eLst, deref, derefs, valsOf, tB, tAnd, tOr, tNot, tTrue, iSeq, gName, gAll, gTup, ownL, ownT, gAt, eAppend, ePopK, ePopL, eSeqM, sNext, sSeq, sDrop, sRet, sRetN, sIf, sSet, sAsg, sNew, sNever, sFor, sRetOwn, entry, entryM, outOf, wipeE, backE, aPar, putE, sPar, eSl, pNo, pInt, eIsa, isaOf, one, two]
    · have h' : (r == s) = false := by simpa [eC, eVar, eFrz, bV, bS, aNil, aCons, aStar, eOp, eUn, eB, eM, eCall, eIf, eAnd, eOr, eNot, eChain, eTup, eLst, deref, derefs, valsOf, tB, tAnd, tOr, tNot, tTrue, iSeq, gName, gAll, gTup, ownL, ownT, gAt, eAppend, ePopK, ePopL, eSeqM, sNext, sSeq, sDrop, sRet, sRetN, sIf, sSet, sAsg, sNew, sNever, sFor, sRetOwn, entry, entryM, outOf, wipeE, backE, aPar, putE, sPar, eSl, pNo, pInt, eIsa, isaOf, one, two] using fun e => h e.symm
      rw [h', decide_eq_false h]; rfl
theorem put_kv {r : Row} {K : Tab} (d : Int) (h : K.lookup r = none) : dPut (kvD K) (rowD r) (.int d) = kvD (K ++ [(r, d)]) := by
  unfold dPut
  rw [has_kv, h, if_neg (by simp [eC, eVar, eFrz, bV, bS, aNil, aCons, aStar, eOp, eUn, eB, eM, eCall, eIf, eAnd, eOr, eNot, eChain, eTup, eLst, deref, derefs, valsOf, tB, tAnd, tOr, tNot, tTrue, iSeq, gName, gAll, gTup, ownL, ownT, gAt, eAppend, ePopK, ePopL, eSeqM, sNext, sSeq, sDrop, sRet, sRetN, sIf, sSet, sAsg, sNew, sNever, sFor, sRetOwn, entry, entryM, outOf, wipeE, backE, aPar, putE, sPar, eSl, pNo, pInt, eIsa, isaOf, one, two])]
  simp [eC, eVar, eFrz, bV, bS, aNil, aCons, aStar, eOp, eUn, eB, eM, eCall, eIf, eAnd, eOr, eNot, eChain, eTup, eLst, deref, derefs, valsOf, tB, tAnd, tOr, tNot, tTrue, iSeq, gName, gAll, gTup, ownL, ownT, gAt, eAppend, ePopK, ePopL, eSeqM, sNext, sSeq, sDrop, sRet, sRetN, sIf, sSet, sAsg, sNew, sNever, sFor, sRetOwn, entry, entryM, outOf, wipeE, backE, aPar, putE, sPar, eSl, pNo, pInt, eIsa, isaOf, one, two, kvD]
theorem isT_kv {K : Tab} (h : K ≠ []) : isT (kvD K) = true := by
  cases K with
  | nil => exact absurd rfl h
  | cons p K => exact keyT_row p.1
theorem count_int (r : Row) (k : Int) : mCount (rowD r) [.int k] = some (.int (r.count k : Nat)) := by
  unfold mCount rowD
  rw [listOf_tup, Option.bind_some]
  dsimp only
  rw [if_pos ⟨rfl, okN_ints 40 r⟩, List.countP_map]
  have e : ((fun y => PyData.eqv y (PyData.int k)) ∘ PyData.int) = fun y => y == k := by
    funext y
    by_cases h : y = k <;> simp [eC, eVar, eFrz, bV, bS, aNil, aCons, aStar, eOp, eUn, eB, eM, eCall, eIf, eAnd, eOr, eNot, eChain, eTup, eLst, deref, derefs, valsOf, tB, tAnd, tOr, tNot, tTrue, iSeq, gName, gAll, gTup, ownL, ownT, gAt, eAppend, ePopK, ePopL, eSeqM, sNext, sSeq, sDrop, sRet, sRetN, sIf, sSet, sAsg, sNew, sNever, sFor, sRetOwn, entry, entryM, outOf, wipeE, backE, aPar, putE, sPar, eSl, pNo, pInt, eIsa, isaOf, one, two, h]
  rw [e]; rfl
theorem count_list (r : List Int) (k : Int) : mCount (.list (r.map .int)) [.int k] = some (.int (r.count k : Nat)) := by
  unfold mCount
  rw [listOf_list, Option.bind_some]
  dsimp only
  rw [if_pos ⟨rfl, okN_ints 40 r⟩, List.countP_map]
  have e : ((fun y => PyData.eqv y (PyData.int k)) ∘ PyData.int) = fun y => y == k := by
    funext y
    by_cases h : y = k <;> simp [eC, eVar, eFrz, bV, bS, aNil, aCons, aStar, eOp, eUn, eB, eM, eCall, eIf, eAnd, eOr, eNot, eChain, eTup, eLst, deref, derefs, valsOf, tB, tAnd, tOr, tNot, tTrue, iSeq, gName, gAll, gTup, ownL, ownT, gAt, eAppend, ePopK, ePopL, eSeqM, sNext, sSeq, sDrop, sRet, sRetN, sIf, sSet, sAsg, sNew, sNever, sFor, sRetOwn, entry, entryM, outOf, wipeE, backE, aPar, putE, sPar, eSl, pNo, pInt, eIsa, isaOf, one, two, h]
  rw [e]; rfl
theorem intsOf_map : ∀ r : List Int, intsOf (r.map .int) = some r
  | [] => rfl
  | x :: r => by simp [eC, eVar, eFrz, bV, bS, aNil, aCons, aStar, eOp, eUn, eB, eM, eCall, eIf, eAnd, eOr, eNot, eChain, eTup, eLst, deref, derefs, valsOf, tB, tAnd, tOr, tNot, tTrue, iSeq, gName, gAll, gTup, ownL, ownT, gAt, eAppend, ePopK, ePopL, eSeqM, sNext, sSeq, sDrop, sRet, sRetN, sIf, sSet, sAsg, sNew, sNever, sFor, sRetOwn, entry, entryM, outOf, wipeE, backE, aPar, putE, sPar, eSl, pNo, pInt, eIsa, isaOf, one, two, intsOf, intOf, intsOf_map r]
@[simp] theorem hasNot_kv {r : Row} {K : Tab} (h : K ≠ []) : opHasNot (rowD r) (.dict (kvD K)) = some (.bool (!(K.lookup r).isSome)) := by
  unfold opHasNot
  dsimp only
  rw [if_pos ⟨keyT_row r, isT_kv h⟩, get_kv]; simp [eC, eVar, eFrz, bV, bS, aNil, aCons, aStar, eOp, eUn, eB, eM, eCall, eIf, eAnd, eOr, eNot, eChain, eTup, eLst, deref, derefs, valsOf, tB, tAnd, tOr, tNot, tTrue, iSeq, gName, gAll, gTup, ownL, ownT, gAt, eAppend, ePopK, ePopL, eSeqM, sNext, sSeq, sDrop, sRet, sRetN, sIf, sSet, sAsg, sNew, sNever, sFor, sRetOwn, entry, entryM, outOf, wipeE, backE, aPar, putE, sPar, eSl, pNo, pInt, eIsa, isaOf, one, two]
theorem at_kv {r : Row} {K : Tab} {d : Int} (h : K ≠ []) (e : K.lookup r = some d) : opAt (.dict (kvD K)) (rowD r) = some (.int d) := by
  unfold opAt
  dsimp only
  rw [if_pos ⟨keyT_row r, isT_kv h⟩, get_kv, e]; rfl
/-- an index into a row -/
theorem ix_row {r : Row} {i : Nat} {x : Int} (h : r[i]? = some x) : opIx (rowD r) (.int i) = some (.int x) := by
  have hi : i < r.length := (List.getElem?_eq_some_iff.mp h).1
  have e := (List.getElem?_eq_some_iff.mp h).2
  simp [eC, eVar, eFrz, bV, bS, aNil, aCons, aStar, eOp, eUn, eB, eM, eCall, eIf, eAnd, eOr, eNot, eChain, eTup, eLst, deref, derefs, valsOf, tB, tAnd, tOr, tNot, tTrue, iSeq, gName, gAll, gTup, ownL, ownT, gAt, eAppend, ePopK, ePopL, eSeqM, sNext, sSeq, sDrop, sRet, sRetN, sIf, sSet, sAsg, sNew, sNever, sFor, sRetOwn, entry, entryM, outOf, wipeE, backE, aPar, putE, sPar, eSl, pNo, pInt, eIsa, isaOf, one, two, opIx, rowD, ixOf, hi, e]
theorem ix_list {α : Type} (ι : α → D) {r : List α} {i : Nat} {x : α} (h : r[i]? = some x) : opIx (.list (r.map ι)) (.int i) = some (ι x) := by
  have hi : i < r.length := (List.getElem?_eq_some_iff.mp h).1
  have e := (List.getElem?_eq_some_iff.mp h).2
  simp [eC, eVar, eFrz, bV, bS, aNil, aCons, aStar, eOp, eUn, eB, eM, eCall, eIf, eAnd, eOr, eNot, eChain, eTup, eLst, deref, derefs, valsOf, tB, tAnd, tOr, tNot, tTrue, iSeq, gName, gAll, gTup, ownL, ownT, gAt, eAppend, ePopK, ePopL, eSeqM, sNext, sSeq, sDrop, sRet, sRetN, sIf, sSet, sAsg, sNew, sNever, sFor, sRetOwn, entry, entryM, outOf, wipeE, backE, aPar, putE, sPar, eSl, pNo, pInt, eIsa, isaOf, one, two, opIx, ixOf, hi, e]
/-- slices with bounds that stand within -/
theorem sIx_nat' (n d k : Nat) : sIx n d (some (k : Int)) = min k n := by
  simp only [sIx]
  rw [if_neg (by omega)]; simp [eC, eVar, eFrz, bV, bS, aNil, aCons, aStar, eOp, eUn, eB, eM, eCall, eIf, eAnd, eOr, eNot, eChain, eTup, eLst, deref, derefs, valsOf, tB, tAnd, tOr, tNot, tTrue, iSeq, gName, gAll, gTup, ownL, ownT, gAt, eAppend, ePopK, ePopL, eSeqM, sNext, sSeq, sDrop, sRet, sRetN, sIf, sSet, sAsg, sNew, sNever, sFor, sRetOwn, entry, entryM, outOf, wipeE, backE, aPar, putE, sPar, eSl, pNo, pInt, eIsa, isaOf, one, two]
theorem cut_to (xs : List D) (k : Nat) : cutD xs none (some (k : Int)) = xs.take k := by
  unfold cutD
  rw [sIx_nat']
  simp only [sIx, List.drop_zero, Nat.sub_zero]
  rcases Nat.le_total k xs.length with h | h
  · rw [Nat.min_eq_left h]
  · rw [Nat.min_eq_right h, List.take_of_length_le (Nat.le_refl _), List.take_of_length_le h]
theorem cut_from (xs : List D) (k : Nat) : cutD xs (some (k : Int)) none = xs.drop k := by
  unfold cutD
  rw [sIx_nat']
  simp only [sIx]
  rcases Nat.le_total k xs.length with h | h
  · rw [Nat.min_eq_left h, List.take_of_length_le (by rw [List.length_drop]; omega)]
  · rw [Nat.min_eq_right h, List.drop_eq_nil_of_le (Nat.le_refl _), List.drop_eq_nil_of_le h]; simp [eC, eVar, eFrz, bV, bS, aNil, aCons, aStar, eOp, eUn, eB, eM, eCall, eIf, eAnd, eOr, eNot, eChain, eTup, eLst, deref, derefs, valsOf, tB, tAnd, tOr, tNot, tTrue, iSeq, gName, gAll, gTup, ownL, ownT, gAt, eAppend, ePopK, ePopL, eSeqM, sNext, sSeq, sDrop, sRet, sRetN, sIf, sSet, sAsg, sNew, sNever, sFor, sRetOwn, entry, entryM, outOf, wipeE, backE, aPar, putE, sPar, eSl, pNo, pInt, eIsa, isaOf, one, two]
theorem cut_mid (xs : List D) (j k : Nat) : cutD xs (some (j : Int)) (some (k : Int)) = (xs.drop j).take (k - j) := by
  unfold cutD
  rw [sIx_nat', sIx_nat']
  rcases Nat.le_total j xs.length with h | h
  · rw [Nat.min_eq_left h]
    rcases Nat.le_total k xs.length with h2 | h2
    · rw [Nat.min_eq_left h2]
    · rw [Nat.min_eq_right h2, List.take_of_length_le (by rw [List.length_drop]; omega), List.take_of_length_le (by rw [List.length_drop]; omega)]
  · rw [Nat.min_eq_right h, List.drop_eq_nil_of_le (Nat.le_refl _), List.drop_eq_nil_of_le h]; simp [eC, eVar, eFrz, bV, bS, aNil, aCons, aStar, eOp, eUn, eB, eM, eCall, eIf, eAnd, eOr, eNot, eChain, eTup, eLst, deref, derefs, valsOf, tB, tAnd, tOr, tNot, tTrue, iSeq, gName, gAll, gTup, ownL, ownT, gAt, eAppend, ePopK, ePopL, eSeqM, sNext, sSeq, sDrop, sRet, sRetN, sIf, sSet, sAsg, sNew, sNever, sFor, sRetOwn, entry, entryM, outOf, wipeE, backE, aPar, putE, sPar, eSl, pNo, pInt, eIsa, isaOf, one, two]
theorem rangeD_nat (n : Nat) : rangeD 0 (n : Int) = (List.range n).map fun i => PyData.int (i : Nat) := by
  simp [eC, eVar, eFrz, bV, bS, aNil, aCons, aStar, eOp, eUn, eB, eM, eCall, eIf, eAnd, eOr, eNot, eChain, eTup, eLst, deref, derefs, valsOf, tB, tAnd, tOr, tNot, tTrue, iSeq, gName, gAll, gTup, ownL, ownT, gAt, eAppend, ePopK, ePopL, eSeqM, sNext, sSeq, sDrop, sRet, sRetN, sIf, sSet, sAsg, sNew, sNever, sFor, sRetOwn, entry, entryM, outOf, wipeE, backE, aPar, putE, sPar, eSl, pNo, pInt, eIsa, isaOf, one, two, rangeD]
theorem rangeD_from (a n : Nat) (h : a ≤ n) : rangeD (a : Int) (n : Int) = (List.range (n - a)).map fun i => PyData.int ((a + i : Nat) : Int) := by
  unfold rangeD
  rw [show ((n : Int) - (a : Int)).toNat = n - a by omega]
  refine List.map_congr_left fun i _ => ?_
  rw [Int.natCast_add]
theorem small_nat {n : Nat} (h : n ≤ 16777216) : small (n : Int) = true := by
  unfold small
  rw [Bool.and_eq_true, decide_eq_true_eq, decide_eq_true_eq]
  omega
theorem range1_of {f : EF} {env env1 : Env} {n : Nat} (h : f env = .ok (.int (n : Int), env1)) (hn : n ≤ 16777216) : iRange1 f env = .ok ((List.range n).map fun i => PyData.int (i : Nat), env1) := by
  unfold iRange1
  rw [h, ok_bind]
  dsimp only
  rw [if_pos (small_nat hn), rangeD_nat]
theorem range2_of {f g : EF} {env e1 e2 : Env} {a n : Nat} (hf : f env = .ok (.int (a : Int), e1)) (hg : g e1 = .ok (.int (n : Int), e2)) (ha : a ≤ n) (hn : n ≤ 16777216) : iRange2 f g env = .ok ((List.range (n - a)).map fun i => PyData.int ((a + i : Nat) : Int), e2) := by
  unfold iRange2
  rw [hf, ok_bind]
  dsimp only
  rw [hg, ok_bind]
  dsimp only
  rw [if_pos ⟨small_nat (by omega), small_nat hn⟩, rangeD_from a n ha]
end WP
end
section
set_option Elab.async false
set_option linter.all false
set_option maxRecDepth 100000
set_option autoImplicit false
/-! PL3: distances in a graph of rows, by a table. -/
namespace WP
open PySem PySem.Spec
theorem mem_lookup {K : Tab} {r : Row} {d : Int} (h : K.lookup r = some d) : (r, d) ∈ K := by
  induction K with
  | nil => cases h
  | cons p K ih =>
    obtain ⟨s, e⟩ := p
    rw [List.lookup_cons] at h
    cases q : (r == s) with
    | true =>
      rw [q] at h
      have h : some e = some d := h
      cases h
      rw [eq_of_beq q]; exact List.mem_cons_self
    | false =>
      rw [q] at h
      exact List.mem_cons_of_mem _ (ih h)
theorem lookup_none {K : Tab} {r : Row} (h : K.lookup r = none) : r ∉ K.map (·.1) := by
  induction K with
  | nil => simp [eC, eVar, eFrz, bV, bS, aNil, aCons, aStar, eOp, eUn, eB, eM, eCall, eIf, eAnd, eOr, eNot, eChain, eTup, eLst, deref, derefs, valsOf, tB, tAnd, tOr, tNot, tTrue, iSeq, gName, gAll, gTup, ownL, ownT, gAt, eAppend, ePopK, ePopL, eSeqM, sNext, sSeq, sDrop, sRet, sRetN, sIf, sSet, sAsg, sNew, sNever, sFor, sRetOwn, entry, entryM, outOf, wipeE, backE, aPar, putE, sPar, eSl, pNo, pInt, eIsa, isaOf, one, two]
  | cons p K ih =>
    obtain ⟨s, e⟩ := p
    rw [List.lookup_cons] at h
    cases q : (r == s) with
    | true => rw [q] at h; cases h
    | false =>
      rw [q] at h
      rw [List.map_cons, List.mem_cons]
      rintro (z | z)
      · have z : r = s := z
        rw [z, beq_self_eq_true] at q; cases q
      · exact ih h z
theorem lookup_mem {K : Tab} {r : Row} {d : Int} (nd : (K.map (·.1)).Nodup) (h : (r, d) ∈ K) : K.lookup r = some d := by
  induction K with
  | nil => cases h
  | cons p K ih =>
    obtain ⟨s, e⟩ := p
    rw [List.map_cons, List.nodup_cons] at nd
    rw [List.lookup_cons]
    rcases List.mem_cons.mp h with z | z
    · cases z; rw [beq_self_eq_true]
    · have hs : (r == s) = false := by
        rw [beq_eq_false_iff_ne]
        intro y
        subst y
        exact nd.1 (List.mem_map.mpr ⟨(r, d), z, rfl⟩)
      rw [hs]; exact ih nd.2 z
theorem key_once {K : Tab} {r : Row} {d e : Int} (nd : (K.map (·.1)).Nodup) (h : (r, d) ∈ K) (h' : (r, e) ∈ K) : d = e := by
  have a := lookup_mem nd h
  rw [lookup_mem nd h'] at a
  cases a; rfl
/-- a table of distances -/
structure Lab (s : Row) (N : Row → List Row) (L : Tab) : Prop where
  start : (s, 0) ∈ L
  nd : (L.map (·.1)).Nodup
  pred : ∀ v d, (v, d) ∈ L → (v = s ∧ d = 0) ∨ (0 < d ∧ ∃ u, (u, d - 1) ∈ L ∧ v ∈ N u)
  succ : ∀ u d v, (u, d) ∈ L → v ∈ N u → ∃ d', (v, d') ∈ L ∧ d' ≤ d + 1
theorem Lab.nonneg {s : Row} {N : Row → List Row} {L : Tab} (l : Lab s N L) {v : Row} {d : Int} (h : (v, d) ∈ L) : 0 ≤ d := by
  rcases l.pred v d h with ⟨_, e⟩ | ⟨e, _⟩ <;> omega
theorem Lab.le {s : Row} {N N' : Row → List Row} {L L' : Tab} (l : Lab s N L) (l' : Lab s N' L') (h : ∀ u v d, (u, d) ∈ L → v ∈ N u → v ≠ u → v ∈ N' u) : ∀ (n : Nat) (v : Row) (d : Int), d.toNat = n → (v, d) ∈ L → ∃ d', (v, d') ∈ L' ∧ d' ≤ d := by
  intro n
  induction n with
  | zero =>
    intro v d hd hm
    rcases l.pred v d hm with ⟨e1, e2⟩ | ⟨e, _⟩
    · subst e1 e2; exact ⟨0, l'.start, Int.le_refl _⟩
    · omega
  | succ n ih =>
    intro v d hd hm
    rcases l.pred v d hm with ⟨e1, e2⟩ | ⟨e, u, hu, hv⟩
    · subst e1 e2; exact ⟨0, l'.start, Int.le_refl _⟩
    · obtain ⟨e', h1, h2⟩ := ih u (d - 1) (by omega) hu
      have ne : v ≠ u := fun z => by
        subst z
        have := key_once l.nd hm hu
        omega
      obtain ⟨d', h3, h4⟩ := l'.succ u e' v h1 (h u v _ hu hv ne)
      exact ⟨d', h3, by omega⟩
theorem Lab.same {s : Row} {N N' : Row → List Row} {L L' : Tab} (l : Lab s N L) (l' : Lab s N' L') (h : ∀ u v d, (u, d) ∈ L → v ≠ u → (v ∈ N u → v ∈ N' u)) (h' : ∀ u v d, (u, d) ∈ L' → v ≠ u → (v ∈ N' u → v ∈ N u)) : L.Perm L' := by
  have one : ∀ v d, (v, d) ∈ L → (v, d) ∈ L' := by
    intro v d hm
    obtain ⟨d', h1, h2⟩ := l.le l' (fun u v d a b c => h u v d a c b) _ v d rfl hm
    obtain ⟨d'', h3, h4⟩ := l'.le l (fun u v d a b c => h' u v d a c b) _ v d' rfl h1
    have := key_once l.nd hm h3
    have e : d' = d := by omega
    rwa [e] at h1
  have two : ∀ v d, (v, d) ∈ L' → (v, d) ∈ L := by
    intro v d hm
    obtain ⟨d', h1, h2⟩ := l'.le l (fun u v d a b c => h' u v d a c b) _ v d rfl hm
    obtain ⟨d'', h3, h4⟩ := l.le l' (fun u v d a b c => h u v d a c b) _ v d' rfl h1
    have := key_once l'.nd hm h3
    have e : d' = d := by omega
    rwa [e] at h1
  have nodup : ∀ {K : Tab}, (K.map (·.1)).Nodup → K.Nodup := fun {K} n => by
    rw [List.nodup_iff_pairwise_ne, List.pairwise_map] at n
    rw [List.nodup_iff_pairwise_ne]
    exact n.imp fun h e => h (by rw [e])
  exact (List.perm_ext_iff_of_nodup (nodup l.nd) (nodup l'.nd)).mpr fun p => ⟨one p.1 p.2, two p.1 p.2⟩

/-! ### the walk, as both programs do it -/
def ins1 (d : Int) (K : Tab) (v : Row) : Tab := if (K.lookup v).isSome = true then K else K ++ [(v, d)]
def ins (d : Int) (K : Tab) (ns : List Row) : Tab := ns.foldl (ins1 d) K
structure FB (s : Row) (N : Row → List Row) (U : List Row) (K : Tab) (at_ : Nat) : Prop where
  hd : ∃ K', K = (s, 0) :: K'
  nd : (K.map (·.1)).Nodup
  pr : ∀ v d, (v, d) ∈ K → (v = s ∧ d = 0) ∨ (0 < d ∧ ∃ u, (u, d - 1) ∈ K ∧ v ∈ N u)
  so : K.Pairwise fun p q => p.2 ≤ q.2
  bd : ∀ a, K[at_]? = some a → ∀ p ∈ K, p.2 ≤ a.2 + 1
  dn : ∀ i p, i < at_ → K[i]? = some p → ∀ v ∈ N p.1, ∃ d', (v, d') ∈ K ∧ d' ≤ p.2 + 1
  le : at_ ≤ K.length
  us : ∀ p ∈ K, p.1 ∈ U
theorem FB.start {s : Row} {N : Row → List Row} {U : List Row} (h : s ∈ U) : FB s N U [(s, 0)] 0 := by
  refine ⟨⟨[], rfl⟩, by simp [eC, eVar, eFrz, bV, bS, aNil, aCons, aStar, eOp, eUn, eB, eM, eCall, eIf, eAnd, eOr, eNot, eChain, eTup, eLst, deref, derefs, valsOf, tB, tAnd, tOr, tNot, tTrue, iSeq, gName, gAll, gTup, ownL, ownT, gAt, eAppend, ePopK, ePopL, eSeqM, sNext, sSeq, sDrop, sRet, sRetN, sIf, sSet, sAsg, sNew, sNever, sFor, sRetOwn, entry, entryM, outOf, wipeE, backE, aPar, putE, sPar, eSl, pNo, pInt, eIsa, isaOf, one, two], fun v d h => ?_, by simp [eC, eVar, eFrz, bV, bS, aNil, aCons, aStar, eOp, eUn, eB, eM, eCall, eIf, eAnd, eOr, eNot, eChain, eTup, eLst, deref, derefs, valsOf, tB, tAnd, tOr, tNot, tTrue, iSeq, gName, gAll, gTup, ownL, ownT, gAt, eAppend, ePopK, ePopL, eSeqM, sNext, sSeq, sDrop, sRet, sRetN, sIf, sSet, sAsg, sNew, sNever, sFor, sRetOwn, entry, entryM, outOf, wipeE, backE, aPar, putE, sPar, eSl, pNo, pInt, eIsa, isaOf, one, two], fun a ha p hp => ?_, fun i p hi => absurd hi (Nat.not_lt_zero _), Nat.zero_le _, fun p hp => ?_⟩
  · cases List.mem_singleton.mp h; exact .inl ⟨rfl, rfl⟩
  · cases ha; cases List.mem_singleton.mp hp; simp [eC, eVar, eFrz, bV, bS, aNil, aCons, aStar, eOp, eUn, eB, eM, eCall, eIf, eAnd, eOr, eNot, eChain, eTup, eLst, deref, derefs, valsOf, tB, tAnd, tOr, tNot, tTrue, iSeq, gName, gAll, gTup, ownL, ownT, gAt, eAppend, ePopK, ePopL, eSeqM, sNext, sSeq, sDrop, sRet, sRetN, sIf, sSet, sAsg, sNew, sNever, sFor, sRetOwn, entry, entryM, outOf, wipeE, backE, aPar, putE, sPar, eSl, pNo, pInt, eIsa, isaOf, one, two]
  · cases List.mem_singleton.mp hp; exact h
theorem FB.lab {s : Row} {N : Row → List Row} {U : List Row} {K : Tab} {n : Nat} (f : FB s N U K n) (h : n = K.length) : Lab s N K := by
  obtain ⟨K', e⟩ := f.hd
  refine ⟨by rw [e]; exact List.mem_cons_self, f.nd, f.pr, fun u d v hu hv => ?_⟩
  obtain ⟨i, hi⟩ := List.getElem?_of_mem hu
  exact f.dn i (u, d) (by rw [h]; exact (List.getElem?_eq_some_iff.mp hi).1) hi v hv
/-- while one row's neighbours are put in -/
structure FI (s : Row) (N : Row → List Row) (U : List Row) (K : Tab) (n : Nat) (u : Row) (d : Int) (ns : List Row) (K' : Tab) : Prop where
  ext : ∃ T, K' = K ++ T ∧ ∀ p ∈ T, p.2 = d + 1 ∧ p.1 ∈ N u
  nd : (K'.map (·.1)).Nodup
  got : ∀ v ∈ ns, ∃ d', (v, d') ∈ K'
  us : ∀ p ∈ K', p.1 ∈ U
theorem FI.look {s : Row} {N : Row → List Row} {U : List Row} {K K' : Tab} {n : Nat} {u : Row} {d : Int} {ns : List Row} (I : FI s N U K n u d ns K') (hu : K[n]? = some (u, d)) : K'.lookup u = some d := by
  obtain ⟨T, e, _⟩ := I.ext
  exact lookup_mem I.nd (by rw [e]; exact List.mem_append_left _ (List.mem_of_getElem? hu))
theorem FI.step {s : Row} {N : Row → List Row} {U : List Row} {K K' : Tab} {n : Nat} {u v : Row} {d : Int} {ns : List Row} (I : FI s N U K n u d ns K') (hv : v ∈ N u) (hU : v ∈ U) : FI s N U K n u d (ns ++ [v]) (ins1 (d + 1) K' v) := by
  obtain ⟨T, e, hT⟩ := I.ext
  unfold ins1
  cases hl : K'.lookup v with
  | some x =>
    rw [if_pos (by rfl)]
    refine ⟨I.ext, I.nd, fun w hw => ?_, I.us⟩
    rcases List.mem_append.mp hw with z | z
    · exact I.got w z
    · rw [List.mem_singleton.mp z]; exact ⟨x, mem_lookup hl⟩
  | none =>
    rw [if_neg (by simp [eC, eVar, eFrz, bV, bS, aNil, aCons, aStar, eOp, eUn, eB, eM, eCall, eIf, eAnd, eOr, eNot, eChain, eTup, eLst, deref, derefs, valsOf, tB, tAnd, tOr, tNot, tTrue, iSeq, gName, gAll, gTup, ownL, ownT, gAt, eAppend, ePopK, ePopL, eSeqM, sNext, sSeq, sDrop, sRet, sRetN, sIf, sSet, sAsg, sNew, sNever, sFor, sRetOwn, entry, entryM, outOf, wipeE, backE, aPar, putE, sPar, eSl, pNo, pInt, eIsa, isaOf, one, two])]
    refine ⟨⟨T ++ [(v, d + 1)], by rw [e, List.append_assoc], fun p hp => ?_⟩, ?_, fun w hw => ?_, fun p hp => ?_⟩
    · rcases List.mem_append.mp hp with z | z
      · exact hT p z
      · rw [List.mem_singleton.mp z]; exact ⟨rfl, hv⟩
    · rw [List.map_append, List.nodup_append]
      refine ⟨I.nd, by simp [eC, eVar, eFrz, bV, bS, aNil, aCons, aStar, eOp, eUn, eB, eM, eCall, eIf, eAnd, eOr, eNot, eChain, eTup, eLst, deref, derefs, valsOf, tB, tAnd, tOr, tNot, tTrue, iSeq, gName, gAll, gTup, ownL, ownT, gAt, eAppend, ePopK, ePopL, eSeqM, sNext, sSeq, sDrop, sRet, sRetN, sIf, sSet, sAsg, sNew, sNever, sFor, sRetOwn, entry, entryM, outOf, wipeE, backE, aPar, putE, sPar, eSl, pNo, pInt, eIsa, isaOf, one, two], fun a ha b hb => ?_⟩
      have hb : b = v := by simpa [eC, eVar, eFrz, bV, bS, aNil, aCons, aStar, eOp, eUn, eB, eM, eCall, eIf, eAnd, eOr, eNot, eChain, eTup, eLst, deref, derefs, valsOf, tB, tAnd, tOr, tNot, tTrue, iSeq, gName, gAll, gTup, ownL, ownT, gAt, eAppend, ePopK, ePopL, eSeqM, sNext, sSeq, sDrop, sRet, sRetN, sIf, sSet, sAsg, sNew, sNever, sFor, sRetOwn, entry, entryM, outOf, wipeE, backE, aPar, putE, sPar, eSl, pNo, pInt, eIsa, isaOf, one, two] using hb
      rw [hb]
      exact fun z => lookup_none hl (z ▸ ha)
    · rcases List.mem_append.mp hw with z | z
      · obtain ⟨d', h⟩ := I.got w z
        exact ⟨d', List.mem_append_left _ h⟩
      · rw [List.mem_singleton.mp z]; exact ⟨d + 1, List.mem_append_right _ (List.mem_singleton.mpr rfl)⟩
    · rcases List.mem_append.mp hp with z | z
      · exact I.us p z
      · rw [List.mem_singleton.mp z]; exact hU
theorem FB.begin {s : Row} {N : Row → List Row} {U : List Row} {K : Tab} {n : Nat} {u : Row} {d : Int} (f : FB s N U K n) : FI s N U K n u d [] K := ⟨⟨[], by simp [eC, eVar, eFrz, bV, bS, aNil, aCons, aStar, eOp, eUn, eB, eM, eCall, eIf, eAnd, eOr, eNot, eChain, eTup, eLst, deref, derefs, valsOf, tB, tAnd, tOr, tNot, tTrue, iSeq, gName, gAll, gTup, ownL, ownT, gAt, eAppend, ePopK, ePopL, eSeqM, sNext, sSeq, sDrop, sRet, sRetN, sIf, sSet, sAsg, sNew, sNever, sFor, sRetOwn, entry, entryM, outOf, wipeE, backE, aPar, putE, sPar, eSl, pNo, pInt, eIsa, isaOf, one, two], fun p h => (List.not_mem_nil h).elim⟩, f.nd, fun v h => (List.not_mem_nil h).elim, f.us⟩
/-- .. and when they are in -/
theorem FB.next {s : Row} {N : Row → List Row} {U : List Row} {K K' : Tab} {n : Nat} {u : Row} {d : Int} (f : FB s N U K n) (hu : K[n]? = some (u, d)) (I : FI s N U K n u d (N u) K') : FB s N U K' (n + 1) := by
  obtain ⟨T, e, hT⟩ := I.ext
  obtain ⟨K0, e0⟩ := f.hd
  have hn : n < K.length := (List.getElem?_eq_some_iff.mp hu).1
  have bdK : ∀ p ∈ K, p.2 ≤ d + 1 := f.bd (u, d) hu
  have low : ∀ a, K'[n + 1]? = some a → d ≤ a.2 := by
    intro a ha
    rw [e] at ha
    by_cases hl : n + 1 < K.length
    · rw [List.getElem?_append_left hl] at ha
      have hs := List.pairwise_iff_getElem.mp f.so n (n + 1) hn hl (Nat.lt_succ_self _)
      rw [(List.getElem?_eq_some_iff.mp hu).2, (List.getElem?_eq_some_iff.mp ha).2] at hs
      exact hs
    · rw [List.getElem?_append_right (by omega)] at ha
      have := (hT a (List.mem_of_getElem? ha)).1
      omega
  refine ⟨⟨K0 ++ T, by rw [e, e0]; rfl⟩, I.nd, fun v x h => ?_, ?_, fun a ha p hp => ?_, fun i p hi hp v hv => ?_, ?_, I.us⟩
  · rw [e] at h
    rcases List.mem_append.mp h with z | z
    · rcases f.pr v x z with q | ⟨q, w, h1, h2⟩
      · exact .inl q
      · exact .inr ⟨q, w, by rw [e]; exact List.mem_append_left _ h1, h2⟩
    · obtain ⟨h1, h2⟩ := hT (v, x) z
      have hd : 0 ≤ d := by
        rcases f.pr u d (List.mem_of_getElem? hu) with ⟨_, q⟩ | ⟨q, _⟩ <;> omega
      dsimp only at h1 h2
      refine .inr ⟨by omega, u, ?_, h2⟩
      rw [e, show x - 1 = d by omega]
      exact List.mem_append_left _ (List.mem_of_getElem? hu)
  · rw [e, List.pairwise_append]
    refine ⟨f.so, ?_, fun p hp q hq => ?_⟩
    · rw [List.pairwise_iff_getElem]
      intro i j hi hj _
      have h1 := (hT _ (List.getElem_mem hi)).1
      have h2 := (hT _ (List.getElem_mem hj)).1
      omega
    · have h1 := bdK p hp
      have h2 := (hT q hq).1
      omega
  · have h1 := low a ha
    rw [e] at hp
    rcases List.mem_append.mp hp with z | z
    · have := bdK p z; omega
    · have := (hT p z).1; omega
  · by_cases hin : i < n
    · rw [e, List.getElem?_append_left (by omega)] at hp
      obtain ⟨d', h1, h2⟩ := f.dn i p hin hp v hv
      exact ⟨d', by rw [e]; exact List.mem_append_left _ h1, h2⟩
    · have ei : i = n := by omega
      subst ei
      rw [e, List.getElem?_append_left hn, hu] at hp
      cases hp
      obtain ⟨d', h1⟩ := I.got v hv
      refine ⟨d', h1, ?_⟩
      rw [e] at h1
      rcases List.mem_append.mp h1 with z | z
      · exact bdK _ z
      · have := (hT _ z).1
        dsimp only at this ⊢
        omega
  · rw [e, List.length_append]; omega
/-- a list without repetition within another is no longer -/
theorem len_le {α : Type} [DecidableEq α] : ∀ (l m : List α), l.Nodup → (∀ x ∈ l, x ∈ m) → l.length ≤ m.length
  | [], _, _, _ => Nat.zero_le _
  | x :: l, m, h, s => by
    rw [List.nodup_cons] at h
    have hx := s x List.mem_cons_self
    have := len_le l (m.erase x) h.2 fun y hy => (List.mem_erase_of_ne (fun e : y = x => h.1 (by rw [← e]; exact hy))).mpr (s y (List.mem_cons_of_mem _ hy))
    rw [List.length_erase_of_mem hx] at this
    have hp : 0 < m.length := List.length_pos_of_mem hx
    rw [List.length_cons]; omega
theorem FB.size {s : Row} {N : Row → List Row} {U : List Row} {K : Tab} {n : Nat} (f : FB s N U K n) : K.length ≤ U.length := by
  have := len_le (K.map (·.1)) U f.nd fun x hx => by
    obtain ⟨p, hp, e⟩ := List.mem_map.mp hx
    rw [← e]; exact f.us p hp
  rwa [List.length_map] at this
theorem FI.size {s : Row} {N : Row → List Row} {U : List Row} {K K' : Tab} {n : Nat} {u : Row} {d : Int} {ns : List Row} (I : FI s N U K n u d ns K') : K'.length ≤ U.length := by
  have := len_le (K'.map (·.1)) U I.nd fun x hx => by
    obtain ⟨p, hp, e⟩ := List.mem_map.mp hx
    rw [← e]; exact I.us p hp
  rwa [List.length_map] at this
end WP
end
section
set_option Elab.async false
set_option linter.all false
set_option maxRecDepth 100000
set_option autoImplicit false
/-! PL4: the program's defs by rows. -/
namespace WP
open PySem PySem.Spec
@[simp] theorem len_row (r : Row) : bLen (rowD r) = some (.int (r.length : Nat)) := by rw [rowD, len_tup, List.length_map]
@[simp] theorem items_row (r : Row) : itemsOf (rowD r) = .ok (r.map .int) := rfl
@[simp] theorem list_row (r : Row) : listOf (rowD r) = some (r.map .int) := rfl
@[simp] theorem isInt_int (i : Int) : (PyData.int i).isInt = true := rfl
@[simp] theorem isBool_int (i : Int) : (PyData.int i).isBool = false := rfl
@[simp] theorem isTuple_row (r : Row) : (rowD r).isTuple = true := rfl
@[simp] theorem isStr_str (x : Str) : (PyData.str x).isStr = true := rfl
theorem whole_int (v : Int) : g_is_whole [.int v] = .ok (.bool true) := by rfl
theorem between_int (v a b : Int) : g_is_between [.int v, .int a, .int b] = .ok (.bool (decide (a ≤ v) && decide (v ≤ b))) := by
  by_cases h : a ≤ v <;> by_cases h2 : v ≤ b <;> simp [eC, eVar, eFrz, bV, bS, aNil, aCons, aStar, eOp, eUn, eB, eM, eCall, eIf, eAnd, eOr, eNot, eChain, eTup, eLst, deref, derefs, valsOf, tB, tAnd, tOr, tNot, tTrue, iSeq, gName, gAll, gTup, ownL, ownT, gAt, eAppend, ePopK, ePopL, eSeqM, sNext, sSeq, sDrop, sRet, sRetN, sIf, sSet, sAsg, sNew, sNever, sFor, sRetOwn, entry, entryM, outOf, wipeE, backE, aPar, putE, sPar, eSl, pNo, pInt, eIsa, isaOf, one, two, g_is_between, defP, b_is_between, whole_int, h, h2]
theorem kinds_int {k : Int} (h : 2 ≤ k) (h2 : k ≤ 4) : g_is_kinds [.int k] = .ok (.bool true) := by simp [eC, eVar, eFrz, bV, bS, aNil, aCons, aStar, eOp, eUn, eB, eM, eCall, eIf, eAnd, eOr, eNot, eChain, eTup, eLst, deref, derefs, valsOf, tB, tAnd, tOr, tNot, tTrue, iSeq, gName, gAll, gTup, ownL, ownT, gAt, eAppend, ePopK, ePopL, eSeqM, sNext, sSeq, sDrop, sRet, sRetN, sIf, sSet, sAsg, sNew, sNever, sFor, sRetOwn, entry, entryM, outOf, wipeE, backE, aPar, putE, sPar, eSl, pNo, pInt, eIsa, isaOf, one, two, g_is_kinds, defP, b_is_kinds, between_int, h, h2]
theorem ckinds_int {k : Int} (h : 2 ≤ k) (h2 : k ≤ 4) : g_check_kinds [.int k] = .ok .none := by simp [eC, eVar, eFrz, bV, bS, aNil, aCons, aStar, eOp, eUn, eB, eM, eCall, eIf, eAnd, eOr, eNot, eChain, eTup, eLst, deref, derefs, valsOf, tB, tAnd, tOr, tNot, tTrue, iSeq, gName, gAll, gTup, ownL, ownT, gAt, eAppend, ePopK, ePopL, eSeqM, sNext, sSeq, sDrop, sRet, sRetN, sIf, sSet, sAsg, sNew, sNever, sFor, sRetOwn, entry, entryM, outOf, wipeE, backE, aPar, putE, sPar, eSl, pNo, pInt, eIsa, isaOf, one, two, g_check_kinds, defP, b_check_kinds, kinds_int h h2]
theorem kind_int (k v : Int) : g_is_kind [.int k, .int v] = .ok (.bool (decide (0 ≤ v) && decide (v ≤ k - 1))) := by simp [eC, eVar, eFrz, bV, bS, aNil, aCons, aStar, eOp, eUn, eB, eM, eCall, eIf, eAnd, eOr, eNot, eChain, eTup, eLst, deref, derefs, valsOf, tB, tAnd, tOr, tNot, tTrue, iSeq, gName, gAll, gTup, ownL, ownT, gAt, eAppend, ePopK, ePopL, eSeqM, sNext, sSeq, sDrop, sRet, sRetN, sIf, sSet, sAsg, sNew, sNever, sFor, sRetOwn, entry, entryM, outOf, wipeE, backE, aPar, putE, sPar, eSl, pNo, pInt, eIsa, isaOf, one, two, g_is_kind, defP, b_is_kind, between_int]
theorem boolsOf_map {α : Type} (p : α → Bool) : ∀ r : List α, boolsOf (r.map fun x => PyData.bool (p x)) = some (r.map p)
  | [] => rfl
  | x :: r => by simp [eC, eVar, eFrz, bV, bS, aNil, aCons, aStar, eOp, eUn, eB, eM, eCall, eIf, eAnd, eOr, eNot, eChain, eTup, eLst, deref, derefs, valsOf, tB, tAnd, tOr, tNot, tTrue, iSeq, gName, gAll, gTup, ownL, ownT, gAt, eAppend, ePopK, ePopL, eSeqM, sNext, sSeq, sDrop, sRet, sRetN, sIf, sSet, sAsg, sNew, sNever, sFor, sRetOwn, entry, entryM, outOf, wipeE, backE, aPar, putE, sPar, eSl, pNo, pInt, eIsa, isaOf, one, two, boolsOf, boolOf, boolsOf_map p r]
theorem all_map {α : Type} (p : α → Bool) (r : List α) : bAll (.list (r.map fun x => PyData.bool (p x))) = some (.bool (r.all p)) := by
  simp [eC, eVar, eFrz, bV, bS, aNil, aCons, aStar, eOp, eUn, eB, eM, eCall, eIf, eAnd, eOr, eNot, eChain, eTup, eLst, deref, derefs, valsOf, tB, tAnd, tOr, tNot, tTrue, iSeq, gName, gAll, gTup, ownL, ownT, gAt, eAppend, ePopK, ePopL, eSeqM, sNext, sSeq, sDrop, sRet, sRetN, sIf, sSet, sAsg, sNew, sNever, sFor, sRetOwn, entry, entryM, outOf, wipeE, backE, aPar, putE, sPar, eSl, pNo, pInt, eIsa, isaOf, one, two, bAll, boolsOf_map]
theorem row_row {k : Int} {r : Row} (h1 : 1 ≤ r.length) (h2 : r.length ≤ 7) (h : ∀ x ∈ r, 0 ≤ x ∧ x < k) : g_is_row [.int k, rowD r] = .ok (.bool true) := by
  have e := eComp_map (own := [2]) (it := iSeq (eVar 1)) (g := WP.gName 2) (f := eCall g_is_kind (aCons (bV (eVar 0)) (aCons (bV (eVar 2)) aNil))) (env := [some ⟨.p, .int k⟩, some ⟨.p, rowD r⟩, none]) (env1 := [some ⟨.p, .int k⟩, some ⟨.p, rowD r⟩, none])
    PyData.int (fun x => PyData.bool (decide (0 ≤ x) && decide (x ≤ k - 1))) (ys := r) (by simp [eC, eVar, eFrz, bV, bS, aNil, aCons, aStar, eOp, eUn, eB, eM, eCall, eIf, eAnd, eOr, eNot, eChain, eTup, eLst, deref, derefs, valsOf, tB, tAnd, tOr, tNot, tTrue, iSeq, gName, gAll, gTup, ownL, ownT, gAt, eAppend, ePopK, ePopL, eSeqM, sNext, sSeq, sDrop, sRet, sRetN, sIf, sSet, sAsg, sNew, sNever, sFor, sRetOwn, entry, entryM, outOf, wipeE, backE, aPar, putE, sPar, eSl, pNo, pInt, eIsa, isaOf, one, two]) (by omega) (fun y hy => ⟨_, _, rfl, by simp [eC, eVar, eFrz, bV, bS, aNil, aCons, aStar, eOp, eUn, eB, eM, eCall, eIf, eAnd, eOr, eNot, eChain, eTup, eLst, deref, derefs, valsOf, tB, tAnd, tOr, tNot, tTrue, iSeq, gName, gAll, gTup, ownL, ownT, gAt, eAppend, ePopK, ePopL, eSeqM, sNext, sSeq, sDrop, sRet, sRetN, sIf, sSet, sAsg, sNew, sNever, sFor, sRetOwn, entry, entryM, outOf, wipeE, backE, aPar, putE, sPar, eSl, pNo, pInt, eIsa, isaOf, one, two, kind_int]; rfl, by simp [eC, eVar, eFrz, bV, bS, aNil, aCons, aStar, eOp, eUn, eB, eM, eCall, eIf, eAnd, eOr, eNot, eChain, eTup, eLst, deref, derefs, valsOf, tB, tAnd, tOr, tNot, tTrue, iSeq, gName, gAll, gTup, ownL, ownT, gAt, eAppend, ePopK, ePopL, eSeqM, sNext, sSeq, sDrop, sRet, sRetN, sIf, sSet, sAsg, sNew, sNever, sFor, sRetOwn, entry, entryM, outOf, wipeE, backE, aPar, putE, sPar, eSl, pNo, pInt, eIsa, isaOf, one, two]⟩)
  have ha : (r.all fun x => decide (0 ≤ x) && decide (x ≤ k - 1)) = true := by
    rw [List.all_eq_true]
    intro x hx
    obtain ⟨a, b⟩ := h x hx
    simp only [Bool.and_eq_true, decide_eq_true_eq]; omega
  have h1' : (1 : Int) ≤ (r.length : Int) := by omega
  have h2' : (r.length : Int) ≤ 7 := by omega
  simp only [g_is_row, defP, b_is_row]
  simp [eC, eVar, eFrz, bV, bS, aNil, aCons, aStar, eOp, eUn, eB, eM, eCall, eIf, eAnd, eOr, eNot, eChain, eTup, eLst, deref, derefs, valsOf, tB, tAnd, tOr, tNot, tTrue, iSeq, gName, gAll, gTup, ownL, ownT, gAt, eAppend, ePopK, ePopL, eSeqM, sNext, sSeq, sDrop, sRet, sRetN, sIf, sSet, sAsg, sNew, sNever, sFor, sRetOwn, entry, entryM, outOf, wipeE, backE, aPar, putE, sPar, eSl, pNo, pInt, eIsa, isaOf, one, two, h1', h2', e, all_map, ha]
end WP
end
section
set_option Elab.async false
set_option linter.all false
set_option maxRecDepth 100000
set_option autoImplicit false
/-! PL5: ways, steps. -/
namespace WP
open PySem PySem.Spec
theorem crow_row {k : Int} {r : Row} (h1 : 1 ≤ r.length) (h2 : r.length ≤ 7) (h : ∀ x ∈ r, 0 ≤ x ∧ x < k) : g_check_row [.int k, rowD r] = .ok .none := by simp [eC, eVar, eFrz, bV, bS, aNil, aCons, aStar, eOp, eUn, eB, eM, eCall, eIf, eAnd, eOr, eNot, eChain, eTup, eLst, deref, derefs, valsOf, tB, tAnd, tOr, tNot, tTrue, iSeq, gName, gAll, gTup, ownL, ownT, gAt, eAppend, ePopK, ePopL, eSeqM, sNext, sSeq, sDrop, sRet, sRetN, sIf, sSet, sAsg, sNew, sNever, sFor, sRetOwn, entry, entryM, outOf, wipeE, backE, aPar, putE, sPar, eSl, pNo, pInt, eIsa, isaOf, one, two, g_check_row, defP, b_check_row, row_row h1 h2 h]
theorem crowed_row {k : Int} {r : Row} (hk : 2 ≤ k) (hk2 : k ≤ 4) (h1 : 1 ≤ r.length) (h2 : r.length ≤ 7) (h : ∀ x ∈ r, 0 ≤ x ∧ x < k) : g_check_rowed [.int k, rowD r] = .ok .none := by
  simp [eC, eVar, eFrz, bV, bS, aNil, aCons, aStar, eOp, eUn, eB, eM, eCall, eIf, eAnd, eOr, eNot, eChain, eTup, eLst, deref, derefs, valsOf, tB, tAnd, tOr, tNot, tTrue, iSeq, gName, gAll, gTup, ownL, ownT, gAt, eAppend, ePopK, ePopL, eSeqM, sNext, sSeq, sDrop, sRet, sRetN, sIf, sSet, sAsg, sNew, sNever, sFor, sRetOwn, entry, entryM, outOf, wipeE, backE, aPar, putE, sPar, eSl, pNo, pInt, eIsa, isaOf, one, two, g_check_rowed, defP, b_check_rowed, crow_row h1 h2 h, ckinds_int hk hk2]
inductive Way where
  | any | near | move | front
  deriving DecidableEq
def Way.s : Way → Str
  | .any => "any"
  | .near => "near"
  | .move => "move"
  | .front => "front"
def Way.d (w : Way) : D := .str w.s
theorem string_str (x : Str) : g_is_string [.str x] = .ok (.bool true) := by simp [eC, eVar, eFrz, bV, bS, aNil, aCons, aStar, eOp, eUn, eB, eM, eCall, eIf, eAnd, eOr, eNot, eChain, eTup, eLst, deref, derefs, valsOf, tB, tAnd, tOr, tNot, tTrue, iSeq, gName, gAll, gTup, ownL, ownT, gAt, eAppend, ePopK, ePopL, eSeqM, sNext, sSeq, sDrop, sRet, sRetN, sIf, sSet, sAsg, sNew, sNever, sFor, sRetOwn, entry, entryM, outOf, wipeE, backE, aPar, putE, sPar, eSl, pNo, pInt, eIsa, isaOf, one, two, g_is_string, defP, b_is_string]
theorem inS (x : Str) (l : List Str) : opIn (.str x) (.tuple (l.map .str)) = some (.bool (decide (x ∈ l))) := by
  have h : (l.map PyData.str).all okD = true := by
    rw [List.all_eq_true]; intro y hy; obtain ⟨z, _, rfl⟩ := List.mem_map.mp hy; rfl
  unfold opIn
  dsimp only
  rw [if_pos ⟨rfl, h⟩, List.any_map]
  congr 2
  induction l with
  | nil => simp [eC, eVar, eFrz, bV, bS, aNil, aCons, aStar, eOp, eUn, eB, eM, eCall, eIf, eAnd, eOr, eNot, eChain, eTup, eLst, deref, derefs, valsOf, tB, tAnd, tOr, tNot, tTrue, iSeq, gName, gAll, gTup, ownL, ownT, gAt, eAppend, ePopK, ePopL, eSeqM, sNext, sSeq, sDrop, sRet, sRetN, sIf, sSet, sAsg, sNew, sNever, sFor, sRetOwn, entry, entryM, outOf, wipeE, backE, aPar, putE, sPar, eSl, pNo, pInt, eIsa, isaOf, one, two]
  | cons y l ih =>
    rw [List.any_cons, ih (by rw [List.map_cons, List.all_cons, Bool.and_eq_true] at h; exact h.2)]
    by_cases e : x = y
    · subst e; simp [eC, eVar, eFrz, bV, bS, aNil, aCons, aStar, eOp, eUn, eB, eM, eCall, eIf, eAnd, eOr, eNot, eChain, eTup, eLst, deref, derefs, valsOf, tB, tAnd, tOr, tNot, tTrue, iSeq, gName, gAll, gTup, ownL, ownT, gAt, eAppend, ePopK, ePopL, eSeqM, sNext, sSeq, sDrop, sRet, sRetN, sIf, sSet, sAsg, sNew, sNever, sFor, sRetOwn, entry, entryM, outOf, wipeE, backE, aPar, putE, sPar, eSl, pNo, pInt, eIsa, isaOf, one, two]
    · have e' : ¬ y = x := fun z => e z.symm
      simp [eC, eVar, eFrz, bV, bS, aNil, aCons, aStar, eOp, eUn, eB, eM, eCall, eIf, eAnd, eOr, eNot, eChain, eTup, eLst, deref, derefs, valsOf, tB, tAnd, tOr, tNot, tTrue, iSeq, gName, gAll, gTup, ownL, ownT, gAt, eAppend, ePopK, ePopL, eSeqM, sNext, sSeq, sDrop, sRet, sRetN, sIf, sSet, sAsg, sNew, sNever, sFor, sRetOwn, entry, entryM, outOf, wipeE, backE, aPar, putE, sPar, eSl, pNo, pInt, eIsa, isaOf, one, two, e, e', eqv_str]
theorem way_way (w : Way) : g_is_way [w.d] = .ok (.bool true) := by
  have h : opIn (.str w.s) (.tuple [.str "any", .str "near", .str "move", .str "front"]) = some (.bool true) := by
    have := inS w.s ["any", "near", "move", "front"]
    rw [show (["any", "near", "move", "front"] : List Str).map PyData.str = [.str "any", .str "near", .str "move", .str "front"] from rfl] at this
    rw [this]
    have e : w.s ∈ (["any", "near", "move", "front"] : List Str) := by cases w <;> decide +kernel
    rw [decide_eq_true e]
  simp [eC, eVar, eFrz, bV, bS, aNil, aCons, aStar, eOp, eUn, eB, eM, eCall, eIf, eAnd, eOr, eNot, eChain, eTup, eLst, deref, derefs, valsOf, tB, tAnd, tOr, tNot, tTrue, iSeq, gName, gAll, gTup, ownL, ownT, gAt, eAppend, ePopK, ePopL, eSeqM, sNext, sSeq, sDrop, sRet, sRetN, sIf, sSet, sAsg, sNew, sNever, sFor, sRetOwn, entry, entryM, outOf, wipeE, backE, aPar, putE, sPar, eSl, pNo, pInt, eIsa, isaOf, one, two, g_is_way, defP, b_is_way, Way.d, string_str, h]
theorem cway_way (w : Way) : g_check_way [w.d] = .ok .none := by simp [eC, eVar, eFrz, bV, bS, aNil, aCons, aStar, eOp, eUn, eB, eM, eCall, eIf, eAnd, eOr, eNot, eChain, eTup, eLst, deref, derefs, valsOf, tB, tAnd, tOr, tNot, tTrue, iSeq, gName, gAll, gTup, ownL, ownT, gAt, eAppend, ePopK, ePopL, eSeqM, sNext, sSeq, sDrop, sRet, sRetN, sIf, sSet, sAsg, sNew, sNever, sFor, sRetOwn, entry, entryM, outOf, wipeE, backE, aPar, putE, sPar, eSl, pNo, pInt, eIsa, isaOf, one, two, g_check_way, defP, b_check_way, way_way]
theorem eq_str (x y : Str) : opEq (.str x) (.str y) = some (.bool (decide (x = y))) := by simp [eC, eVar, eFrz, bV, bS, aNil, aCons, aStar, eOp, eUn, eB, eM, eCall, eIf, eAnd, eOr, eNot, eChain, eTup, eLst, deref, derefs, valsOf, tB, tAnd, tOr, tNot, tTrue, iSeq, gName, gAll, gTup, ownL, ownT, gAt, eAppend, ePopK, ePopL, eSeqM, sNext, sSeq, sDrop, sRet, sRetN, sIf, sSet, sAsg, sNew, sNever, sFor, sRetOwn, entry, entryM, outOf, wipeE, backE, aPar, putE, sPar, eSl, pNo, pInt, eIsa, isaOf, one, two, opEq]
theorem way_eq (w v : Way) : opEq w.d (.str v.s) = some (.bool (decide (w = v))) := by
  rw [Way.d, eq_str]
  congr 2
  cases w <;> cases v <;> decide +kernel
/-! ### pairs -/
def pairD (p : Nat × Nat) : D := .tuple [.int (p.1 : Nat), .int (p.2 : Nat)]
def allPairs (n : Nat) : List (Nat × Nat) := (List.range n).flatMap fun i => ((List.range n).filter fun j => decide (i ≠ j)).map fun j => (i, j)
def pairsOf (n : Nat) : Way → List (Nat × Nat)
  | .near => (List.range (n - 1)).map fun i => (i, i + 1)
  | .front => (List.range (n - 1)).map fun i => (0, i + 1)
  | .move => allPairs n
  | .any => (allPairs n).filter fun p => decide (p.1 < p.2)
theorem flat_le {α β : Type} (f : α → List β) (k : Nat) : ∀ l : List α, (∀ x ∈ l, (f x).length ≤ k) → (l.flatMap f).length ≤ l.length * k
  | [], _ => by simp [eC, eVar, eFrz, bV, bS, aNil, aCons, aStar, eOp, eUn, eB, eM, eCall, eIf, eAnd, eOr, eNot, eChain, eTup, eLst, deref, derefs, valsOf, tB, tAnd, tOr, tNot, tTrue, iSeq, gName, gAll, gTup, ownL, ownT, gAt, eAppend, ePopK, ePopL, eSeqM, sNext, sSeq, sDrop, sRet, sRetN, sIf, sSet, sAsg, sNew, sNever, sFor, sRetOwn, entry, entryM, outOf, wipeE, backE, aPar, putE, sPar, eSl, pNo, pInt, eIsa, isaOf, one, two]
  | x :: l, h => by
    have h1 := h x List.mem_cons_self
    have ih := flat_le f k l fun y hy => h y (List.mem_cons_of_mem _ hy)
    rw [List.flatMap_cons, List.length_append, List.length_cons, Nat.succ_mul]
    omega
theorem allPairs_len (n : Nat) : (allPairs n).length ≤ n * n := by
  have := flat_le (fun i => ((List.range n).filter fun j => decide (i ≠ j)).map fun j => (i, j)) n (List.range n) fun i _ => by
    rw [List.length_map]
    exact Nat.le_trans (List.length_filter_le _ _) (by rw [List.length_range]; exact Nat.le_refl _)
  rwa [List.length_range] at this
theorem ne_int (a b : Int) : opNe (.int a) (.int b) = some (.bool (!decide (a = b))) := by simp [eC, eVar, eFrz, bV, bS, aNil, aCons, aStar, eOp, eUn, eB, eM, eCall, eIf, eAnd, eOr, eNot, eChain, eTup, eLst, deref, derefs, valsOf, tB, tAnd, tOr, tNot, tTrue, iSeq, gName, gAll, gTup, ownL, ownT, gAt, eAppend, ePopK, ePopL, eSeqM, sNext, sSeq, sDrop, sRet, sRetN, sIf, sSet, sAsg, sNew, sNever, sFor, sRetOwn, entry, entryM, outOf, wipeE, backE, aPar, putE, sPar, eSl, pNo, pInt, eIsa, isaOf, one, two, opNe]
theorem way_any (w : Way) : opEq w.d (.str "any") = some (.bool (decide (w = .any))) := way_eq w .any
theorem way_near (w : Way) : opEq w.d (.str "near") = some (.bool (decide (w = .near))) := way_eq w .near
theorem way_move (w : Way) : opEq w.d (.str "move") = some (.bool (decide (w = .move))) := way_eq w .move
theorem way_front (w : Way) : opEq w.d (.str "front") = some (.bool (decide (w = .front))) := way_eq w .front
theorem way_ring (w : Way) : opEq w.d (.str "ring") = some (.bool false) := by
  rw [Way.d, eq_str]
  congr 2
  cases w <;> decide +kernel
theorem way_ff (w : Way) : opIn w.d (.tuple [.str "front", .str "flip"]) = some (.bool (decide (w = .front))) := by
  have := inS w.s ["front", "flip"]
  rw [show (["front", "flip"] : List Str).map PyData.str = [.str "front", .str "flip"] from rfl] at this
  rw [Way.d, this]
  congr 2
  cases w <;> decide +kernel
theorem way_turns (w : Way) : opIn w.d (.tuple [.str "stretch", .str "flip"]) = some (.bool false) := by
  have := inS w.s ["stretch", "flip"]
  rw [show (["stretch", "flip"] : List Str).map PyData.str = [.str "stretch", .str "flip"] from rfl] at this
  rw [Way.d, this]
  congr 2
  cases w <;> decide +kernel
theorem pairs_way {r : Row} (h1 : 1 ≤ r.length) (h2 : r.length ≤ 1000) (w : Way) : g_pairs_of [rowD r, w.d] = .ok (.list ((pairsOf r.length w).map pairD)) := by
  obtain ⟨n, hn⟩ : ∃ n, r.length = n + 1 := ⟨r.length - 1, by omega⟩
  have e1 : ((r.length : Nat) : Int) - 1 = (n : Int) := by omega
  by_cases hw : w = .near
  · subst hw
    have e := eComp_map (own := [4]) (it := iRange1 (eVar 2)) (g := WP.gName 4) (f := eTup (aCons (bV (eVar 4)) (aCons (bV (eOp opAdd (bV (eVar 4)) (bV (eC (.int 1))))) (aNil)))) (env := [some ⟨.p, rowD r⟩, some ⟨.p, Way.near.d⟩, some ⟨.p, .int n⟩, none, none, none, none])
      (env1 := [some ⟨.p, rowD r⟩, some ⟨.p, Way.near.d⟩, some ⟨.p, .int n⟩, none, none, none, none]) (fun i : Nat => PyData.int (i : Nat)) (fun i => pairD (i, i + 1)) (ys := List.range n) (range1_of (by simp [eC, eVar, eFrz, bV, bS, aNil, aCons, aStar, eOp, eUn, eB, eM, eCall, eIf, eAnd, eOr, eNot, eChain, eTup, eLst, deref, derefs, valsOf, tB, tAnd, tOr, tNot, tTrue, iSeq, gName, gAll, gTup, ownL, ownT, gAt, eAppend, ePopK, ePopL, eSeqM, sNext, sSeq, sDrop, sRet, sRetN, sIf, sSet, sAsg, sNew, sNever, sFor, sRetOwn, entry, entryM, outOf, wipeE, backE, aPar, putE, sPar, eSl, pNo, pInt, eIsa, isaOf, one, two, way_any, way_near, way_move, way_front, way_ring, way_ff, way_turns]) (by omega)) (by rw [List.length_range]; omega)
      (fun y hy => ⟨_, _, rfl, by simp [eC, eVar, eFrz, bV, bS, aNil, aCons, aStar, eOp, eUn, eB, eM, eCall, eIf, eAnd, eOr, eNot, eChain, eTup, eLst, deref, derefs, valsOf, tB, tAnd, tOr, tNot, tTrue, iSeq, gName, gAll, gTup, ownL, ownT, gAt, eAppend, ePopK, ePopL, eSeqM, sNext, sSeq, sDrop, sRet, sRetN, sIf, sSet, sAsg, sNew, sNever, sFor, sRetOwn, entry, entryM, outOf, wipeE, backE, aPar, putE, sPar, eSl, pNo, pInt, eIsa, isaOf, one, two, way_any, way_near, way_move, way_front, way_ring, way_ff, way_turns, pairD]; rfl, by simp [eC, eVar, eFrz, bV, bS, aNil, aCons, aStar, eOp, eUn, eB, eM, eCall, eIf, eAnd, eOr, eNot, eChain, eTup, eLst, deref, derefs, valsOf, tB, tAnd, tOr, tNot, tTrue, iSeq, gName, gAll, gTup, ownL, ownT, gAt, eAppend, ePopK, ePopL, eSeqM, sNext, sSeq, sDrop, sRet, sRetN, sIf, sSet, sAsg, sNew, sNever, sFor, sRetOwn, entry, entryM, outOf, wipeE, backE, aPar, putE, sPar, eSl, pNo, pInt, eIsa, isaOf, one, two, way_any, way_near, way_move, way_front, way_ring, way_ff, way_turns]⟩)
    simp only [g_pairs_of, defP, b_pairs_of]
    simp [eC, eVar, eFrz, bV, bS, aNil, aCons, aStar, eOp, eUn, eB, eM, eCall, eIf, eAnd, eOr, eNot, eChain, eTup, eLst, deref, derefs, valsOf, tB, tAnd, tOr, tNot, tTrue, iSeq, gName, gAll, gTup, ownL, ownT, gAt, eAppend, ePopK, ePopL, eSeqM, sNext, sSeq, sDrop, sRet, sRetN, sIf, sSet, sAsg, sNew, sNever, sFor, sRetOwn, entry, entryM, outOf, wipeE, backE, aPar, putE, sPar, eSl, pNo, pInt, eIsa, isaOf, one, two, way_any, way_near, way_move, way_front, way_ring, way_ff, way_turns, e1, e, pairsOf, hn, List.map_map, Function.comp_def]
  · by_cases hf : w = .front
    · subst hf
      have e := eComp_map (own := [4]) (it := iRange2 (eC (.int 1)) (eB (one bLen) (aCons (bV (eVar 0)) aNil))) (g := WP.gName 4) (f := eTup (aCons (bV (eC (.int 0))) (aCons (bV (eVar 4)) aNil))) (env := [some ⟨.p, rowD r⟩, some ⟨.p, Way.front.d⟩, some ⟨.p, .int n⟩, none, none, none, none])
        (env1 := [some ⟨.p, rowD r⟩, some ⟨.p, Way.front.d⟩, some ⟨.p, .int n⟩, none, none, none, none]) (fun i : Nat => PyData.int ((1 + i : Nat) : Int)) (fun i => pairD (0, i + 1)) (ys := List.range n)
        (by have z := range2_of (f := eC (.int 1)) (g := eB (one bLen) (aCons (bV (eVar 0)) aNil)) (env := [some ⟨.p, rowD r⟩, some ⟨.p, Way.front.d⟩, some ⟨.p, .int n⟩, none, none, none, none]) (a := 1) (n := r.length) rfl (by simp [eC, eVar, eFrz, bV, bS, aNil, aCons, aStar, eOp, eUn, eB, eM, eCall, eIf, eAnd, eOr, eNot, eChain, eTup, eLst, deref, derefs, valsOf, tB, tAnd, tOr, tNot, tTrue, iSeq, gName, gAll, gTup, ownL, ownT, gAt, eAppend, ePopK, ePopL, eSeqM, sNext, sSeq, sDrop, sRet, sRetN, sIf, sSet, sAsg, sNew, sNever, sFor, sRetOwn, entry, entryM, outOf, wipeE, backE, aPar, putE, sPar, eSl, pNo, pInt, eIsa, isaOf, one, two, way_any, way_near, way_move, way_front, way_ring, way_ff, way_turns]; rfl) h1 (by omega)
            rwa [show r.length - 1 = n by omega] at z) (by rw [List.length_range]; omega)
        (fun y hy => ⟨_, _, rfl, by simp [eC, eVar, eFrz, bV, bS, aNil, aCons, aStar, eOp, eUn, eB, eM, eCall, eIf, eAnd, eOr, eNot, eChain, eTup, eLst, deref, derefs, valsOf, tB, tAnd, tOr, tNot, tTrue, iSeq, gName, gAll, gTup, ownL, ownT, gAt, eAppend, ePopK, ePopL, eSeqM, sNext, sSeq, sDrop, sRet, sRetN, sIf, sSet, sAsg, sNew, sNever, sFor, sRetOwn, entry, entryM, outOf, wipeE, backE, aPar, putE, sPar, eSl, pNo, pInt, eIsa, isaOf, one, two, way_any, way_near, way_move, way_front, way_ring, way_ff, way_turns, pairD, Int.add_comm]; rfl, by simp [eC, eVar, eFrz, bV, bS, aNil, aCons, aStar, eOp, eUn, eB, eM, eCall, eIf, eAnd, eOr, eNot, eChain, eTup, eLst, deref, derefs, valsOf, tB, tAnd, tOr, tNot, tTrue, iSeq, gName, gAll, gTup, ownL, ownT, gAt, eAppend, ePopK, ePopL, eSeqM, sNext, sSeq, sDrop, sRet, sRetN, sIf, sSet, sAsg, sNew, sNever, sFor, sRetOwn, entry, entryM, outOf, wipeE, backE, aPar, putE, sPar, eSl, pNo, pInt, eIsa, isaOf, one, two, way_any, way_near, way_move, way_front, way_ring, way_ff, way_turns]⟩)
      simp only [g_pairs_of, defP, b_pairs_of]
      simp [eC, eVar, eFrz, bV, bS, aNil, aCons, aStar, eOp, eUn, eB, eM, eCall, eIf, eAnd, eOr, eNot, eChain, eTup, eLst, deref, derefs, valsOf, tB, tAnd, tOr, tNot, tTrue, iSeq, gName, gAll, gTup, ownL, ownT, gAt, eAppend, ePopK, ePopL, eSeqM, sNext, sSeq, sDrop, sRet, sRetN, sIf, sSet, sAsg, sNew, sNever, sFor, sRetOwn, entry, entryM, outOf, wipeE, backE, aPar, putE, sPar, eSl, pNo, pInt, eIsa, isaOf, one, two, way_any, way_near, way_move, way_front, way_ring, way_ff, way_turns, e1, e, pairsOf, hn, List.map_map, Function.comp_def]
    · have ea := eComp2_pure (own := [5, 6]) (own2 := [6]) (it := iRange1 (eB (one bLen) (aCons (bV (eVar 0)) aNil))) (g := WP.gName 5) (t := tTrue) (it2 := iRange1 (eB (one bLen) (aCons (bV (eVar 0)) aNil))) (g2 := WP.gName 6) (t2 := WP.tB (eOp opNe (bV (eVar 5)) (bV (eVar 6))))
        (f := eTup (aCons (bV (eVar 5)) (aCons (bV (eVar 6)) aNil))) (env := [some ⟨.p, rowD r⟩, some ⟨.p, w.d⟩, some ⟨.p, .int n⟩, none, none, none, none]) (env1 := [some ⟨.p, rowD r⟩, some ⟨.p, w.d⟩, some ⟨.p, .int n⟩, none, none, none, none])
        (fun i : Nat => PyData.int (i : Nat)) (fun i : Nat => PyData.int (i : Nat)) (fun _ => true) (fun _ => List.range r.length) (fun i j => decide (i ≠ j)) (fun i j => pairD (i, j)) (ys := List.range r.length) (range1_of (by simp [eC, eVar, eFrz, bV, bS, aNil, aCons, aStar, eOp, eUn, eB, eM, eCall, eIf, eAnd, eOr, eNot, eChain, eTup, eLst, deref, derefs, valsOf, tB, tAnd, tOr, tNot, tTrue, iSeq, gName, gAll, gTup, ownL, ownT, gAt, eAppend, ePopK, ePopL, eSeqM, sNext, sSeq, sDrop, sRet, sRetN, sIf, sSet, sAsg, sNew, sNever, sFor, sRetOwn, entry, entryM, outOf, wipeE, backE, aPar, putE, sPar, eSl, pNo, pInt, eIsa, isaOf, one, two, way_any, way_near, way_move, way_front, way_ring, way_ff, way_turns]) (by omega)) (by
          have z := allPairs_len r.length
          unfold allPairs at z
          have y : (((List.range r.length).filter fun _ => true).flatMap fun i => ((List.range r.length).filter fun j => decide (i ≠ j)).map fun j => pairD (i, j)).length = ((List.range r.length).flatMap fun i => ((List.range r.length).filter fun j => decide (i ≠ j)).map fun j => (i, j)).length := by
            rw [List.filter_eq_self.mpr (fun _ _ => rfl), List.length_flatMap, List.length_flatMap]
            simp [eC, eVar, eFrz, bV, bS, aNil, aCons, aStar, eOp, eUn, eB, eM, eCall, eIf, eAnd, eOr, eNot, eChain, eTup, eLst, deref, derefs, valsOf, tB, tAnd, tOr, tNot, tTrue, iSeq, gName, gAll, gTup, ownL, ownT, gAt, eAppend, ePopK, ePopL, eSeqM, sNext, sSeq, sDrop, sRet, sRetN, sIf, sSet, sAsg, sNew, sNever, sFor, sRetOwn, entry, entryM, outOf, wipeE, backE, aPar, putE, sPar, eSl, pNo, pInt, eIsa, isaOf, one, two, way_any, way_near, way_move, way_front, way_ring, way_ff, way_turns]
          rw [y]
          have := Nat.mul_le_mul h2 h2
          omega)
        (fun y hy => ⟨_, _, rfl, rfl, (fun z => by cases z), fun _ => ⟨_, range1_of (by simp [eC, eVar, eFrz, bV, bS, aNil, aCons, aStar, eOp, eUn, eB, eM, eCall, eIf, eAnd, eOr, eNot, eChain, eTup, eLst, deref, derefs, valsOf, tB, tAnd, tOr, tNot, tTrue, iSeq, gName, gAll, gTup, ownL, ownT, gAt, eAppend, ePopK, ePopL, eSeqM, sNext, sSeq, sDrop, sRet, sRetN, sIf, sSet, sAsg, sNew, sNever, sFor, sRetOwn, entry, entryM, outOf, wipeE, backE, aPar, putE, sPar, eSl, pNo, pInt, eIsa, isaOf, one, two, way_any, way_near, way_move, way_front, way_ring, way_ff, way_turns]; rfl) (by omega), by simp [eC, eVar, eFrz, bV, bS, aNil, aCons, aStar, eOp, eUn, eB, eM, eCall, eIf, eAnd, eOr, eNot, eChain, eTup, eLst, deref, derefs, valsOf, tB, tAnd, tOr, tNot, tTrue, iSeq, gName, gAll, gTup, ownL, ownT, gAt, eAppend, ePopK, ePopL, eSeqM, sNext, sSeq, sDrop, sRet, sRetN, sIf, sSet, sAsg, sNew, sNever, sFor, sRetOwn, entry, entryM, outOf, wipeE, backE, aPar, putE, sPar, eSl, pNo, pInt, eIsa, isaOf, one, two, way_any, way_near, way_move, way_front, way_ring, way_ff, way_turns], fun z hz => ⟨_, _, rfl, by simp [eC, eVar, eFrz, bV, bS, aNil, aCons, aStar, eOp, eUn, eB, eM, eCall, eIf, eAnd, eOr, eNot, eChain, eTup, eLst, deref, derefs, valsOf, tB, tAnd, tOr, tNot, tTrue, iSeq, gName, gAll, gTup, ownL, ownT, gAt, eAppend, ePopK, ePopL, eSeqM, sNext, sSeq, sDrop, sRet, sRetN, sIf, sSet, sAsg, sNew, sNever, sFor, sRetOwn, entry, entryM, outOf, wipeE, backE, aPar, putE, sPar, eSl, pNo, pInt, eIsa, isaOf, one, two, way_any, way_near, way_move, way_front, way_ring, way_ff, way_turns, ne_int]; exact ⟨Int.ofNat_inj, rfl⟩, fun _ => ⟨_, by simp [eC, eVar, eFrz, bV, bS, aNil, aCons, aStar, eOp, eUn, eB, eM, eCall, eIf, eAnd, eOr, eNot, eChain, eTup, eLst, deref, derefs, valsOf, tB, tAnd, tOr, tNot, tTrue, iSeq, gName, gAll, gTup, ownL, ownT, gAt, eAppend, ePopK, ePopL, eSeqM, sNext, sSeq, sDrop, sRet, sRetN, sIf, sSet, sAsg, sNew, sNever, sFor, sRetOwn, entry, entryM, outOf, wipeE, backE, aPar, putE, sPar, eSl, pNo, pInt, eIsa, isaOf, one, two, way_any, way_near, way_move, way_front, way_ring, way_ff, way_turns, pairD]; rfl, by simp [eC, eVar, eFrz, bV, bS, aNil, aCons, aStar, eOp, eUn, eB, eM, eCall, eIf, eAnd, eOr, eNot, eChain, eTup, eLst, deref, derefs, valsOf, tB, tAnd, tOr, tNot, tTrue, iSeq, gName, gAll, gTup, ownL, ownT, gAt, eAppend, ePopK, ePopL, eSeqM, sNext, sSeq, sDrop, sRet, sRetN, sIf, sSet, sAsg, sNew, sNever, sFor, sRetOwn, entry, entryM, outOf, wipeE, backE, aPar, putE, sPar, eSl, pNo, pInt, eIsa, isaOf, one, two, way_any, way_near, way_move, way_front, way_ring, way_ff, way_turns]⟩, fun _ => by simp [eC, eVar, eFrz, bV, bS, aNil, aCons, aStar, eOp, eUn, eB, eM, eCall, eIf, eAnd, eOr, eNot, eChain, eTup, eLst, deref, derefs, valsOf, tB, tAnd, tOr, tNot, tTrue, iSeq, gName, gAll, gTup, ownL, ownT, gAt, eAppend, ePopK, ePopL, eSeqM, sNext, sSeq, sDrop, sRet, sRetN, sIf, sSet, sAsg, sNew, sNever, sFor, sRetOwn, entry, entryM, outOf, wipeE, backE, aPar, putE, sPar, eSl, pNo, pInt, eIsa, isaOf, one, two, way_any, way_near, way_move, way_front, way_ring, way_ff, way_turns]⟩⟩⟩)
      have la : ((List.range r.length).filter fun _ => true).flatMap (fun i => ((List.range r.length).filter fun j => decide (i ≠ j)).map fun j => pairD (i, j)) = (allPairs r.length).map pairD := by
        rw [List.filter_eq_self.mpr (fun _ _ => rfl)]
        unfold allPairs
        rw [List.map_flatMap]
        simp [eC, eVar, eFrz, bV, bS, aNil, aCons, aStar, eOp, eUn, eB, eM, eCall, eIf, eAnd, eOr, eNot, eChain, eTup, eLst, deref, derefs, valsOf, tB, tAnd, tOr, tNot, tTrue, iSeq, gName, gAll, gTup, ownL, ownT, gAt, eAppend, ePopK, ePopL, eSeqM, sNext, sSeq, sDrop, sRet, sRetN, sIf, sSet, sAsg, sNew, sNever, sFor, sRetOwn, entry, entryM, outOf, wipeE, backE, aPar, putE, sPar, eSl, pNo, pInt, eIsa, isaOf, one, two, way_any, way_near, way_move, way_front, way_ring, way_ff, way_turns, List.map_map, Function.comp_def]
      rw [la] at ea
      have lz : (allPairs r.length).length ≤ 16777216 := by
        have := allPairs_len r.length
        have := Nat.mul_le_mul h2 h2
        omega
      have ec := eComp_pure (own := [5, 6]) (it := iSeq (eVar 3)) (g := WP.gTup [WP.gName 5, WP.gName 6]) (t := WP.tB (eOp opLt (bV (eVar 5)) (bV (eVar 6)))) (f := eTup (aCons (bV (eVar 5)) (aCons (bV (eVar 6)) aNil)))
        (env := [some ⟨.p, rowD r⟩, some ⟨.p, w.d⟩, some ⟨.p, .int n⟩, some ⟨.p, .list ((allPairs r.length).map pairD)⟩, none, none, none]) (env1 := [some ⟨.p, rowD r⟩, some ⟨.p, w.d⟩, some ⟨.p, .int n⟩, some ⟨.p, .list ((allPairs r.length).map pairD)⟩, none, none, none])
        pairD (fun p => decide (p.1 < p.2)) pairD (by simp [eC, eVar, eFrz, bV, bS, aNil, aCons, aStar, eOp, eUn, eB, eM, eCall, eIf, eAnd, eOr, eNot, eChain, eTup, eLst, deref, derefs, valsOf, tB, tAnd, tOr, tNot, tTrue, iSeq, gName, gAll, gTup, ownL, ownT, gAt, eAppend, ePopK, ePopL, eSeqM, sNext, sSeq, sDrop, sRet, sRetN, sIf, sSet, sAsg, sNew, sNever, sFor, sRetOwn, entry, entryM, outOf, wipeE, backE, aPar, putE, sPar, eSl, pNo, pInt, eIsa, isaOf, one, two, way_any, way_near, way_move, way_front, way_ring, way_ff, way_turns]) lz (fun y hy => ⟨_, _, by simp [eC, eVar, eFrz, bV, bS, aNil, aCons, aStar, eOp, eUn, eB, eM, eCall, eIf, eAnd, eOr, eNot, eChain, eTup, eLst, deref, derefs, valsOf, tB, tAnd, tOr, tNot, tTrue, iSeq, gName, gAll, gTup, ownL, ownT, gAt, eAppend, ePopK, ePopL, eSeqM, sNext, sSeq, sDrop, sRet, sRetN, sIf, sSet, sAsg, sNew, sNever, sFor, sRetOwn, entry, entryM, outOf, wipeE, backE, aPar, putE, sPar, eSl, pNo, pInt, eIsa, isaOf, one, two, way_any, way_near, way_move, way_front, way_ring, way_ff, way_turns, pairD]; rfl, by simp [eC, eVar, eFrz, bV, bS, aNil, aCons, aStar, eOp, eUn, eB, eM, eCall, eIf, eAnd, eOr, eNot, eChain, eTup, eLst, deref, derefs, valsOf, tB, tAnd, tOr, tNot, tTrue, iSeq, gName, gAll, gTup, ownL, ownT, gAt, eAppend, ePopK, ePopL, eSeqM, sNext, sSeq, sDrop, sRet, sRetN, sIf, sSet, sAsg, sNew, sNever, sFor, sRetOwn, entry, entryM, outOf, wipeE, backE, aPar, putE, sPar, eSl, pNo, pInt, eIsa, isaOf, one, two, way_any, way_near, way_move, way_front, way_ring, way_ff, way_turns]; rfl, fun _ => ⟨_, by simp [eC, eVar, eFrz, bV, bS, aNil, aCons, aStar, eOp, eUn, eB, eM, eCall, eIf, eAnd, eOr, eNot, eChain, eTup, eLst, deref, derefs, valsOf, tB, tAnd, tOr, tNot, tTrue, iSeq, gName, gAll, gTup, ownL, ownT, gAt, eAppend, ePopK, ePopL, eSeqM, sNext, sSeq, sDrop, sRet, sRetN, sIf, sSet, sAsg, sNew, sNever, sFor, sRetOwn, entry, entryM, outOf, wipeE, backE, aPar, putE, sPar, eSl, pNo, pInt, eIsa, isaOf, one, two, way_any, way_near, way_move, way_front, way_ring, way_ff, way_turns, pairD]; rfl, by simp [eC, eVar, eFrz, bV, bS, aNil, aCons, aStar, eOp, eUn, eB, eM, eCall, eIf, eAnd, eOr, eNot, eChain, eTup, eLst, deref, derefs, valsOf, tB, tAnd, tOr, tNot, tTrue, iSeq, gName, gAll, gTup, ownL, ownT, gAt, eAppend, ePopK, ePopL, eSeqM, sNext, sSeq, sDrop, sRet, sRetN, sIf, sSet, sAsg, sNew, sNever, sFor, sRetOwn, entry, entryM, outOf, wipeE, backE, aPar, putE, sPar, eSl, pNo, pInt, eIsa, isaOf, one, two, way_any, way_near, way_move, way_front, way_ring, way_ff, way_turns]⟩, fun _ => by simp [eC, eVar, eFrz, bV, bS, aNil, aCons, aStar, eOp, eUn, eB, eM, eCall, eIf, eAnd, eOr, eNot, eChain, eTup, eLst, deref, derefs, valsOf, tB, tAnd, tOr, tNot, tTrue, iSeq, gName, gAll, gTup, ownL, ownT, gAt, eAppend, ePopK, ePopL, eSeqM, sNext, sSeq, sDrop, sRet, sRetN, sIf, sSet, sAsg, sNew, sNever, sFor, sRetOwn, entry, entryM, outOf, wipeE, backE, aPar, putE, sPar, eSl, pNo, pInt, eIsa, isaOf, one, two, way_any, way_near, way_move, way_front, way_ring, way_ff, way_turns]⟩)
      simp only [g_pairs_of, defP, b_pairs_of]
      cases w with
      | near => exact absurd rfl hw
      | front => exact absurd rfl hf
      | move => simp [eC, eVar, eFrz, bV, bS, aNil, aCons, aStar, eOp, eUn, eB, eM, eCall, eIf, eAnd, eOr, eNot, eChain, eTup, eLst, deref, derefs, valsOf, tB, tAnd, tOr, tNot, tTrue, iSeq, gName, gAll, gTup, ownL, ownT, gAt, eAppend, ePopK, ePopL, eSeqM, sNext, sSeq, sDrop, sRet, sRetN, sIf, sSet, sAsg, sNew, sNever, sFor, sRetOwn, entry, entryM, outOf, wipeE, backE, aPar, putE, sPar, eSl, pNo, pInt, eIsa, isaOf, one, two, way_any, way_near, way_move, way_front, way_ring, way_ff, way_turns, e1, ea, pairsOf]
      | any => simp [eC, eVar, eFrz, bV, bS, aNil, aCons, aStar, eOp, eUn, eB, eM, eCall, eIf, eAnd, eOr, eNot, eChain, eTup, eLst, deref, derefs, valsOf, tB, tAnd, tOr, tNot, tTrue, iSeq, gName, gAll, gTup, ownL, ownT, gAt, eAppend, ePopK, ePopL, eSeqM, sNext, sSeq, sDrop, sRet, sRetN, sIf, sSet, sAsg, sNew, sNever, sFor, sRetOwn, entry, entryM, outOf, wipeE, backE, aPar, putE, sPar, eSl, pNo, pInt, eIsa, isaOf, one, two, way_any, way_near, way_move, way_front, way_ring, way_ff, way_turns, e1, ea, ec, pairsOf]
end WP
end
section
set_option Elab.async false
set_option linter.all false
set_option maxRecDepth 100000
set_option autoImplicit false
/-! PL6: one step of the program. -/
namespace WP
open PySem PySem.Spec
@[simp] theorem valsOf_vals : ∀ xs : List D, valsOf (xs.map BR.val) = .ok xs
  | [] => rfl
  | x :: xs => by simp [eC, eVar, eFrz, bV, bS, aNil, aCons, aStar, eOp, eUn, eB, eM, eCall, eIf, eAnd, eOr, eNot, eChain, eTup, eLst, deref, derefs, valsOf, tB, tAnd, tOr, tNot, tTrue, iSeq, gName, gAll, gTup, ownL, ownT, gAt, eAppend, ePopK, ePopL, eSeqM, sNext, sSeq, sDrop, sRet, sRetN, sIf, sSet, sAsg, sNew, sNever, sFor, sRetOwn, entry, entryM, outOf, wipeE, backE, aPar, putE, sPar, eSl, pNo, pInt, eIsa, isaOf, one, two, way_any, way_near, way_move, way_front, way_ring, way_ff, way_turns, valsOf_vals xs]
@[simp] theorem valsOf_app (rs : List BR) : ∀ xs : List D, valsOf (xs.map BR.val ++ rs) = (valsOf rs).bind fun ds => .ok (xs ++ ds)
  | [] => by
    simp only [List.map_nil, List.nil_append]
    cases valsOf rs <;> rfl
  | x :: xs => by
    simp only [List.map_cons, List.cons_append, valsOf, valsOf_app rs xs]
    cases valsOf rs <;> rfl
@[simp] theorem valsOf_valsC {α : Type} (f : α → D) (xs : List α) : valsOf (xs.map (BR.val ∘ f)) = .ok (xs.map f) := by
  rw [← List.map_map, valsOf_vals]
@[simp] theorem valsOf_appC {α : Type} (f : α → D) (rs : List BR) (xs : List α) : valsOf (xs.map (BR.val ∘ f) ++ rs) = (valsOf rs).bind fun ds => .ok (xs.map f ++ ds) := by
  rw [← List.map_map, valsOf_app]
@[simp] theorem cut_row_to (r : Row) (i : Nat) : opCut (rowD r) none (some (i : Int)) = some (rowD (r.take i)) := by
  simp only [opCut, rowD]; rw [cut_to, List.map_take]
@[simp] theorem cut_row_from (r : Row) (i : Nat) : opCut (rowD r) (some (i : Int)) none = some (rowD (r.drop i)) := by
  simp only [opCut, rowD]; rw [cut_from, List.map_drop]
@[simp] theorem cut_row_from1 (r : Row) (i : Nat) : opCut (rowD r) (some ((i : Int) + 1)) none = some (rowD (r.drop (i + 1))) := by
  rw [← cut_row_from]; rfl
@[simp] theorem cut_row_to1 (r : Row) (i : Nat) : opCut (rowD r) none (some ((i : Int) + 1)) = some (rowD (r.take (i + 1))) := by
  rw [← cut_row_to]; rfl
@[simp] theorem cut_lst_to (r : Row) (i : Nat) : opCut (.list (r.map .int)) none (some (i : Int)) = some (.list ((r.take i).map .int)) := by
  simp only [opCut]; rw [cut_to, List.map_take]
@[simp] theorem cut_lst_from (r : Row) (i : Nat) : opCut (.list (r.map .int)) (some (i : Int)) none = some (.list ((r.drop i).map .int)) := by
  simp only [opCut]; rw [cut_from, List.map_drop]
@[simp] theorem cut_row_mid (r : Row) (i j : Nat) : opCut (rowD r) (some (i : Int)) (some (j : Int)) = some (rowD ((r.drop i).take (j - i))) := by
  simp only [opCut, rowD]; rw [cut_mid, ← List.map_drop, ← List.map_take]
@[simp] theorem cut_row_mid1 (r : Row) (i j : Nat) : opCut (rowD r) (some ((i : Int) + 1)) (some (j : Int)) = some (rowD ((r.drop (i + 1)).take (j - (i + 1)))) := by
  rw [← cut_row_mid]; rfl
def nth (r : Row) (i : Nat) : Int := r.getD i 0
/-- the item at i, taken out and put in at j -/
def shiftR (r : Row) (i j : Nat) : Row := (r.take i ++ r.drop (i + 1)).take j ++ nth r i :: (r.take i ++ r.drop (i + 1)).drop j
def putR (r : Row) (i j : Nat) : Row := (r.set i (nth r j)).set j (nth r i)
theorem ix_get {r : Row} {i : Nat} (h : i < r.length) : opIx (rowD r) (.int i) = some (.int (nth r i)) := by
  refine ix_row ?_
  rw [nth, List.getD_eq_getElem?_getD, List.getElem?_eq_getElem h]; rfl
theorem shifted_row {r : Row} {i j : Nat} (h : i < r.length) (hr : r.length ≤ 1000) : g_shifted [rowD r, .int i, .int j] = .ok (rowD (shiftR r i j)) := by
  have z1 : (r.take i).length + (r.drop (i + 1)).length ≤ 16777216 := by rw [List.length_take, List.length_drop]; omega
  have z2 : min j ((r.take i).length + (r.drop (i + 1)).length) + ((r.take i).length + (r.drop (i + 1)).length - j + 1) ≤ 16777216 := by
    rw [List.length_take, List.length_drop]; omega
  have l1 : ((r.take i).map PyData.int ++ (r.drop (i + 1)).map PyData.int).length ≤ 16777216 := by rw [List.length_append, List.length_map, List.length_map]; exact z1
  have s1 : eLst (aStar (bV (eSl (bV (eVar 0)) pNo (pInt (eVar 1)))) (aStar (bV (eSl (bV (eVar 0)) (pInt (eOp opAdd (bV (eVar 1)) (bV (eC (.int 1))))) pNo)) aNil)) [some ⟨.p, rowD r⟩, some ⟨.p, .int i⟩, some ⟨.p, .int j⟩, none] =
      .ok (.list ((r.take i ++ r.drop (i + 1)).map .int), [some ⟨.p, rowD r⟩, some ⟨.p, .int i⟩, some ⟨.p, .int j⟩, none]) := by
    have q : ∀ xs ys : List D, xs.length + ys.length ≤ 16777216 → (if (xs ++ ys).length ≤ 16777216 then Out.ok (PyData.list (xs ++ ys), ([some ⟨.p, rowD r⟩, some ⟨.p, .int i⟩, some ⟨.p, .int j⟩, none] : Env)) else Out.bad) = .ok (.list (xs ++ ys), [some ⟨.p, rowD r⟩, some ⟨.p, .int i⟩, some ⟨.p, .int j⟩, none]) := fun xs ys h => if_pos (by rw [List.length_append]; exact h)
    rw [List.map_append, ← q _ _ (by rw [List.length_map, List.length_map]; exact z1)]
    simp only [eLst, aStar, bV, eSl, eVar, pNo, pInt, eOp, eC, aNil, deref, ok_bind, List.getElem?_cons_zero, List.getElem?_cons_succ, cut_row_to, cut_row_from1, add_int, opt_some, items_row, valsOf_app, valsOf_vals, valsOf, List.append_nil]
  generalize hL : r.take i ++ r.drop (i + 1) = L at s1
  have hlen : L.length ≤ 1000 := by rw [← hL, List.length_append, List.length_take, List.length_drop]; omega
  have s2 : eTup (aStar (bV (eSl (bV (eVar 3)) pNo (pInt (eVar 2)))) (aCons (bV (eOp opIx (bV (eVar 0)) (bV (eVar 1)))) (aStar (bV (eSl (bV (eVar 3)) (pInt (eVar 2)) pNo)) aNil))) [some ⟨.p, rowD r⟩, some ⟨.p, .int i⟩, some ⟨.p, .int j⟩, some ⟨.p, .list (L.map .int)⟩] =
      .ok (.tuple ((L.take j ++ nth r i :: L.drop j).map .int), [some ⟨.p, rowD r⟩, some ⟨.p, .int i⟩, some ⟨.p, .int j⟩, some ⟨.p, .list (L.map .int)⟩]) := by
    have q : ∀ xs : List D, xs.length ≤ 16777216 → (if xs.length ≤ 16777216 then Out.ok (PyData.tuple xs, ([some ⟨.p, rowD r⟩, some ⟨.p, .int i⟩, some ⟨.p, .int j⟩, some ⟨.p, .list (L.map .int)⟩] : Env)) else Out.bad) = .ok (.tuple xs, [some ⟨.p, rowD r⟩, some ⟨.p, .int i⟩, some ⟨.p, .int j⟩, some ⟨.p, .list (L.map .int)⟩]) := fun xs h => if_pos h
    rw [List.map_append, List.map_cons, ← q _ (by rw [List.length_append, List.length_cons, List.length_map, List.length_map, List.length_take, List.length_drop]; omega)]
    simp only [eTup, aStar, aCons, bV, eSl, eVar, pNo, pInt, eOp, eC, aNil, deref, ok_bind, List.getElem?_cons_zero, List.getElem?_cons_succ, cut_lst_to, cut_lst_from, ix_get h, opt_some, items_list, valsOf_app, valsOf_vals, valsOf, List.append_nil]
  have hs : shiftR r i j = L.take j ++ nth r i :: L.drop j := by unfold shiftR; rw [hL]
  rw [hs, rowD]
  change g_shifted [rowD r, .int i, .int j] = _
  simp only [g_shifted, defP, b_shifted]
  simp [eC, eVar, eFrz, bV, bS, aNil, aCons, aStar, eOp, eUn, eB, eM, eCall, eIf, eAnd, eOr, eNot, eChain, deref, derefs, valsOf, tB, tAnd, tOr, tNot, tTrue, iSeq, gName, gAll, gTup, ownL, ownT, gAt, eAppend, ePopK, ePopL, eSeqM, sNext, sSeq, sDrop, sRet, sRetN, sIf, sSet, sAsg, sNew, sNever, sFor, sRetOwn, entry, entryM, outOf, wipeE, backE, aPar, putE, sPar, eSl, pNo, pInt, eIsa, isaOf, one, two, way_any, way_near, way_move, way_front, way_ring, way_ff, way_turns, s1, s2]
  rw [rowD, List.map_append, List.map_cons, List.map_take, List.map_drop]
theorem ixOf_nat {n i : Nat} (h : i < n) : ixOf n (i : Int) = some i := by simp [eC, eVar, eFrz, bV, bS, aNil, aCons, aStar, eOp, eUn, eB, eM, eCall, eIf, eAnd, eOr, eNot, eChain, eTup, eLst, deref, derefs, valsOf, tB, tAnd, tOr, tNot, tTrue, iSeq, gName, gAll, gTup, ownL, ownT, gAt, eAppend, ePopK, ePopL, eSeqM, sNext, sSeq, sDrop, sRet, sRetN, sIf, sSet, sAsg, sNew, sNever, sFor, sRetOwn, entry, entryM, outOf, wipeE, backE, aPar, putE, sPar, eSl, pNo, pInt, eIsa, isaOf, one, two, way_any, way_near, way_move, way_front, way_ring, way_ff, way_turns, ixOf, h]
theorem put_row {r : Row} {i j : Nat} (hi : i < r.length) (hj : j < r.length) : g_put_in_each [rowD r, .int i, .int j] = .ok (rowD (putR r i j)) := by
  have e : (((r.map PyData.int).set i (.int (nth r j))).set j (.int (nth r i))) = (putR r i j).map PyData.int := by
    unfold putR; rw [List.map_set, List.map_set]
  have hl : bList (rowD r) = some (.list (r.map .int)) := rfl
  simp [eC, eVar, eFrz, bV, bS, aNil, aCons, aStar, eOp, eUn, eB, eM, eCall, eIf, eAnd, eOr, eNot, eChain, eTup, eLst, deref, derefs, valsOf, tB, tAnd, tOr, tNot, tTrue, iSeq, gName, gAll, gTup, ownL, ownT, gAt, eAppend, ePopK, ePopL, eSeqM, sNext, sSeq, sDrop, sRet, sRetN, sIf, sSet, sAsg, sNew, sNever, sFor, sRetOwn, entry, entryM, outOf, wipeE, backE, aPar, putE, sPar, eSl, pNo, pInt, eIsa, isaOf, one, two, way_any, way_near, way_move, way_front, way_ring, way_ff, way_turns, g_put_in_each, defP, b_put_in_each, ix_get hi, ix_get hj, hl, ixOf_nat hi, ixOf_nat hj, e]
  rfl
def doneBy (r : Row) (w : Way) (p : Nat × Nat) : Row := match w with
  | .move => shiftR r p.1 p.2
  | .front => shiftR r p.2 0
  | _ => putR r p.1 p.2
theorem ix_pair0 (p : Nat × Nat) : opIx (pairD p) (.int 0) = some (.int (p.1 : Nat)) := by simp [eC, eVar, eFrz, bV, bS, aNil, aCons, aStar, eOp, eUn, eB, eM, eCall, eIf, eAnd, eOr, eNot, eChain, eTup, eLst, deref, derefs, valsOf, tB, tAnd, tOr, tNot, tTrue, iSeq, gName, gAll, gTup, ownL, ownT, gAt, eAppend, ePopK, ePopL, eSeqM, sNext, sSeq, sDrop, sRet, sRetN, sIf, sSet, sAsg, sNew, sNever, sFor, sRetOwn, entry, entryM, outOf, wipeE, backE, aPar, putE, sPar, eSl, pNo, pInt, eIsa, isaOf, one, two, way_any, way_near, way_move, way_front, way_ring, way_ff, way_turns, opIx, pairD, ixOf]
theorem ix_pair1 (p : Nat × Nat) : opIx (pairD p) (.int 1) = some (.int (p.2 : Nat)) := by simp [eC, eVar, eFrz, bV, bS, aNil, aCons, aStar, eOp, eUn, eB, eM, eCall, eIf, eAnd, eOr, eNot, eChain, eTup, eLst, deref, derefs, valsOf, tB, tAnd, tOr, tNot, tTrue, iSeq, gName, gAll, gTup, ownL, ownT, gAt, eAppend, ePopK, ePopL, eSeqM, sNext, sSeq, sDrop, sRet, sRetN, sIf, sSet, sAsg, sNew, sNever, sFor, sRetOwn, entry, entryM, outOf, wipeE, backE, aPar, putE, sPar, eSl, pNo, pInt, eIsa, isaOf, one, two, way_any, way_near, way_move, way_front, way_ring, way_ff, way_turns, opIx, pairD, ixOf]
theorem done_way {r : Row} (hr : r.length ≤ 1000) (w : Way) {p : Nat × Nat} (h1 : p.1 < r.length) (h2 : p.2 < r.length) : g_done_by [rowD r, w.d, pairD p] = .ok (rowD (doneBy r w p)) := by
  have z : ((0 : Nat) : Int) = 0 := rfl
  have q := shifted_row (j := 0) h2 hr
  rw [z] at q
  cases w <;> simp [eC, eVar, eFrz, bV, bS, aNil, aCons, aStar, eOp, eUn, eB, eM, eCall, eIf, eAnd, eOr, eNot, eChain, eTup, eLst, deref, derefs, valsOf, tB, tAnd, tOr, tNot, tTrue, iSeq, gName, gAll, gTup, ownL, ownT, gAt, eAppend, ePopK, ePopL, eSeqM, sNext, sSeq, sDrop, sRet, sRetN, sIf, sSet, sAsg, sNew, sNever, sFor, sRetOwn, entry, entryM, outOf, wipeE, backE, aPar, putE, sPar, eSl, pNo, pInt, eIsa, isaOf, one, two, way_any, way_near, way_move, way_front, way_ring, way_ff, way_turns, g_done_by, defP, b_done_by, ix_pair0, ix_pair1, doneBy, shifted_row h1 hr, q, put_row h1 h2]
/-- a pair's places stand within the row -/
theorem pairs_in {n : Nat} {w : Way} {p : Nat × Nat} (h : p ∈ pairsOf n w) : p.1 < n ∧ p.2 < n := by
  have ha : ∀ p ∈ allPairs n, p.1 < n ∧ p.2 < n := by
    intro p hp
    unfold allPairs at hp
    obtain ⟨i, hi, h2⟩ := List.mem_flatMap.mp hp
    obtain ⟨j, hj, rfl⟩ := List.mem_map.mp h2
    exact ⟨List.mem_range.mp hi, List.mem_range.mp (List.mem_filter.mp hj).1⟩
  cases w with
  | near =>
    obtain ⟨i, hi, rfl⟩ := List.mem_map.mp h
    have := List.mem_range.mp hi
    exact ⟨by dsimp only; omega, by dsimp only; omega⟩
  | front =>
    obtain ⟨i, hi, rfl⟩ := List.mem_map.mp h
    have := List.mem_range.mp hi
    exact ⟨by dsimp only; omega, by dsimp only; omega⟩
  | move => exact ha p h
  | any => exact ha p (List.mem_filter.mp h).1
def nbr (w : Way) (r : Row) : List Row := (pairsOf r.length w).map (doneBy r w)
end WP
end
section
set_option Elab.async false
set_option linter.all false
set_option maxRecDepth 100000
set_option autoImplicit false
/-! PL7: far_from. -/
namespace WP
open PySem PySem.Spec
def lineD (K : Tab) : D := .list (K.map fun p => rowD p.1)
def E2 (r : Row) (w : Way) (u : Row) (n : Nat) (K : Tab) (x y : Option Sl) : Env := [some ⟨.p, rowD r⟩, some ⟨.p, w.d⟩, some ⟨.dt, .dict (kvD K)⟩, some ⟨.m, lineD K⟩, some ⟨.p, .int ((n + 1 : Nat) : Int)⟩, some ⟨.p, rowD u⟩, x, y]
/-- the slots of far_from -/
def E0 (r : Row) (w : Way) (K : Tab) (n : Nat) : Env := [some ⟨.p, rowD r⟩, some ⟨.p, w.d⟩, some ⟨.dt, .dict (kvD K)⟩, some ⟨.m, lineD K⟩, some ⟨.p, .int (n : Nat)⟩, none, none, none]
def E1 (r : Row) (w : Way) (u : Row) (n : Nat) (K : Tab) : Env := [some ⟨.p, rowD r⟩, some ⟨.p, w.d⟩, some ⟨.dt, .dict (kvD K)⟩, some ⟨.m, lineD K⟩, some ⟨.p, .int ((n + 1 : Nat) : Int)⟩, some ⟨.p, rowD u⟩, none, none]
theorem ne_nil {s : Row} {N : Row → List Row} {U : List Row} {K : Tab} {n : Nat} (f : FB s N U K n) : K ≠ [] := by
  obtain ⟨K', e⟩ := f.hd
  rw [e]; exact List.cons_ne_nil _ _
structure Ground (r : Row) (w : Way) (U : List Row) : Prop where
  here : r ∈ U
  cls : ∀ u ∈ U, ∀ v ∈ nbr w u, v ∈ U
  len : ∀ u ∈ U, u.length = r.length
  few : U.length ≤ 1000000
  pos : 1 ≤ r.length
  low : r.length ≤ 1000
theorem far_inner {r u : Row} {w : Way} {U : List Row} {K : Tab} {n : Nat} {d : Int} (G : Ground r w U) (f : FB r (nbr w) U K n) (hu : K[n]? = some (u, d)) :
    ∃ e', sFor [6, 7] (iSeq (eCall g_pairs_of (aCons (bV (eVar 5)) (aCons (bV (eVar 1)) (aNil))))) (WP.gName 6) (sSeq (sSet 7 (eCall g_done_by (aCons (bV (eVar 5)) (aCons (bV (eVar 1)) (aCons (bV (eVar 6)) (aNil)))))) (sIf (WP.tB (eOp opHasNot (bV (eVar 7)) (bS 2))) (sSeq (sAsg (gKey 2 (eVar 7)) (eOp opAdd (bV (eOp opAt (bS 2) (bV (eVar 5)))) (bV (eC (.int 1))))) (sDrop (eAppend 3 (eVar 7)))) (sNext)))
      (E1 r w u n K) = .ok (.nx, e') ∧ ∃ K', e' = E1 r w u n K' ∧ FB r (nbr w) U K' (n + 1) := by
  have hU := f.us _ (List.mem_of_getElem? hu)
  have lu := G.len u hU
  have g1 := G.pos
  have g2 := G.low
  have g3 := G.few
  obtain ⟨e', h1, K', h2, h3⟩ := sFor_inv (fg := [6, 7]) (it := iSeq (eCall g_pairs_of (aCons (bV (eVar 5)) (aCons (bV (eVar 1)) (aNil))))) (g := WP.gName 6)
    (b := sSeq (sSet 7 (eCall g_done_by (aCons (bV (eVar 5)) (aCons (bV (eVar 1)) (aCons (bV (eVar 6)) (aNil)))))) (sIf (WP.tB (eOp opHasNot (bV (eVar 7)) (bS 2))) (sSeq (sAsg (gKey 2 (eVar 7)) (eOp opAdd (bV (eOp opAt (bS 2) (bV (eVar 5)))) (bV (eC (.int 1))))) (sDrop (eAppend 3 (eVar 7)))) (sNext)))
    (env := E1 r w u n K) (env1 := E1 r w u n K) pairD (fun ds e => ∃ K', e = E1 r w u n K' ∧ FI r (nbr w) U K n u d (ds.map (doneBy u w)) K') (ys := pairsOf u.length w)
    (by simp [eC, eVar, eFrz, bV, bS, aNil, aCons, aStar, eOp, eUn, eB, eM, eCall, eIf, eAnd, eOr, eNot, eChain, eTup, eLst, deref, derefs, valsOf, tB, tAnd, tOr, tNot, tTrue, iSeq, gName, gAll, gTup, ownL, ownT, gAt, eAppend, ePopK, ePopL, eSeqM, sNext, sSeq, sDrop, sRet, sRetN, sIf, sSet, sAsg, sNew, sNever, sFor, sRetOwn, entry, entryM, outOf, wipeE, backE, aPar, putE, sPar, eSl, pNo, pInt, eIsa, isaOf, one, two, way_any, way_near, way_move, way_front, way_ring, way_ff, way_turns, E1, pairs_way (r := u) (by omega) (by omega) w]) ⟨K, rfl, f.begin⟩ (by
      rintro ds y rest e hd ⟨K', rfl, I⟩
      have hy : y ∈ pairsOf u.length w := by rw [← hd]; exact List.mem_append_right _ List.mem_cons_self
      obtain ⟨p1, p2⟩ := pairs_in hy
      have hv : doneBy u w y ∈ nbr w u := List.mem_map.mpr ⟨y, hy, rfl⟩
      have hd := done_way (by omega) w p1 p2
      have st := I.step hv (G.cls u hU _ hv)
      rw [show ds.map (doneBy u w) ++ [doneBy u w y] = (ds ++ [y]).map (doneBy u w) by rw [List.map_append]; rfl] at st
      have nn : K' ≠ [] := by
        obtain ⟨T, e, _⟩ := I.ext
        rw [e]; exact fun z => ne_nil f (List.append_eq_nil_iff.mp z).1
      have at_u := at_kv nn (I.look hu)
      have sz := I.size
      have z1 : K'.length < 16777216 := by omega
      generalize hV : doneBy u w y = v at hv hd st
      unfold ins1 at st
      cases hl : K'.lookup v with
      | some x =>
        rw [hl, if_pos (by rfl)] at st
        refine ⟨_, E2 r w u n K' (some ⟨.p, pairD y⟩) (some ⟨.p, rowD v⟩), rfl, ?_, K', ?_, st⟩
        · simp [eC, eVar, eFrz, bV, bS, aNil, aCons, aStar, eOp, eUn, eB, eM, eCall, eIf, eAnd, eOr, eNot, eChain, eTup, eLst, deref, derefs, valsOf, tB, tAnd, tOr, tNot, tTrue, iSeq, gName, gAll, gTup, ownL, ownT, gAt, eAppend, ePopK, ePopL, eSeqM, sNext, sSeq, sDrop, sRet, sRetN, sIf, sSet, sAsg, sNew, sNever, sFor, sRetOwn, entry, entryM, outOf, wipeE, backE, aPar, putE, sPar, eSl, pNo, pInt, eIsa, isaOf, one, two, way_any, way_near, way_move, way_front, way_ring, way_ff, way_turns, E1, E2, hd, hasNot_kv nn, hl]
        · simp [eC, eVar, eFrz, bV, bS, aNil, aCons, aStar, eOp, eUn, eB, eM, eCall, eIf, eAnd, eOr, eNot, eChain, eTup, eLst, deref, derefs, valsOf, tB, tAnd, tOr, tNot, tTrue, iSeq, gName, gAll, gTup, ownL, ownT, gAt, eAppend, ePopK, ePopL, eSeqM, sNext, sSeq, sDrop, sRet, sRetN, sIf, sSet, sAsg, sNew, sNever, sFor, sRetOwn, entry, entryM, outOf, wipeE, backE, aPar, putE, sPar, eSl, pNo, pInt, eIsa, isaOf, one, two, way_any, way_near, way_move, way_front, way_ring, way_ff, way_turns, E1, E2]
      | none =>
        rw [hl, if_neg (by simp [eC, eVar, eFrz, bV, bS, aNil, aCons, aStar, eOp, eUn, eB, eM, eCall, eIf, eAnd, eOr, eNot, eChain, eTup, eLst, deref, derefs, valsOf, tB, tAnd, tOr, tNot, tTrue, iSeq, gName, gAll, gTup, ownL, ownT, gAt, eAppend, ePopK, ePopL, eSeqM, sNext, sSeq, sDrop, sRet, sRetN, sIf, sSet, sAsg, sNew, sNever, sFor, sRetOwn, entry, entryM, outOf, wipeE, backE, aPar, putE, sPar, eSl, pNo, pInt, eIsa, isaOf, one, two, way_any, way_near, way_move, way_front, way_ring, way_ff, way_turns])] at st
        refine ⟨_, E2 r w u n (K' ++ [(v, d + 1)]) (some ⟨.p, pairD y⟩) (some ⟨.p, rowD v⟩), rfl, ?_, K' ++ [(v, d + 1)], ?_, st⟩
        · simp [eC, eVar, eFrz, bV, bS, aNil, aCons, aStar, eOp, eUn, eB, eM, eCall, eIf, eAnd, eOr, eNot, eChain, eTup, eLst, deref, derefs, valsOf, tB, tAnd, tOr, tNot, tTrue, iSeq, gName, gAll, gTup, ownL, ownT, gAt, eAppend, ePopK, ePopL, eSeqM, sNext, sSeq, sDrop, sRet, sRetN, sIf, sSet, sAsg, sNew, sNever, sFor, sRetOwn, entry, entryM, outOf, wipeE, backE, aPar, putE, sPar, eSl, pNo, pInt, eIsa, isaOf, one, two, way_any, way_near, way_move, way_front, way_ring, way_ff, way_turns, E1, E2, hd, hasNot_kv nn, hl, gKey, at_u, put_kv (d + 1) hl, z1, lineD]
        · simp [eC, eVar, eFrz, bV, bS, aNil, aCons, aStar, eOp, eUn, eB, eM, eCall, eIf, eAnd, eOr, eNot, eChain, eTup, eLst, deref, derefs, valsOf, tB, tAnd, tOr, tNot, tTrue, iSeq, gName, gAll, gTup, ownL, ownT, gAt, eAppend, ePopK, ePopL, eSeqM, sNext, sSeq, sDrop, sRet, sRetN, sIf, sSet, sAsg, sNew, sNever, sFor, sRetOwn, entry, entryM, outOf, wipeE, backE, aPar, putE, sPar, eSl, pNo, pInt, eIsa, isaOf, one, two, way_any, way_near, way_move, way_front, way_ring, way_ff, way_turns, E1, E2, lineD])
  refine ⟨e', h1, K', h2, ?_⟩
  exact f.next hu h3
theorem ix_line {K : Tab} {n : Nat} {u : Row} {d : Int} (h : K[n]? = some (u, d)) : opIx (lineD K) (.int n) = some (rowD u) :=
  ix_list (fun p : Row × Int => rowD p.1) h
theorem len_line (K : Tab) : bLen (lineD K) = some (.int (K.length : Nat)) := by unfold lineD; rw [len_list, List.length_map]
theorem far_way {r : Row} {w : Way} {U : List Row} (G : Ground r w U) : ∃ K, g_far_from [rowD r, w.d] = .ok (.dict (kvD K)) ∧ Lab r (nbr w) K ∧ (∀ p ∈ K, p.1 ∈ U) ∧ K ≠ [] := by
  have hb : ∃ e', sWhile [5] fuel (WP.tB (eOp opLt (bV (eVar 4)) (bV (eB (one bLen) (aCons (bS 3) (aNil)))))) (sSeq (sPar [5, 4] [(.p, eOp opIx (bS 3) (bV (eVar 4))), (.p, eOp opAdd (bV (eVar 4)) (bV (eC (.int 1))))]) (sFor [6, 7] (iSeq (eCall g_pairs_of (aCons (bV (eVar 5)) (aCons (bV (eVar 1)) (aNil))))) (WP.gName 6) (sSeq (sSet 7 (eCall g_done_by (aCons (bV (eVar 5)) (aCons (bV (eVar 1)) (aCons (bV (eVar 6)) (aNil)))))) (sIf (WP.tB (eOp opHasNot (bV (eVar 7)) (bS 2))) (sSeq (sAsg (gKey 2 (eVar 7)) (eOp opAdd (bV (eOp opAt (bS 2) (bV (eVar 5)))) (bV (eC (.int 1))))) (sDrop (eAppend 3 (eVar 7)))) (sNext)))))
      (E0 r w [(r, 0)] 0) = .ok (.nx, e') ∧ ∃ K, e' = E0 r w K K.length ∧ FB r (nbr w) U K K.length := by
    have g3 := G.few
    refine sWhile_inv (fun k e => ∃ K n, e = E0 r w K n ∧ FB r (nbr w) U K n ∧ k = U.length - n) (fun e => ∃ K, e = E0 r w K K.length ∧ FB r (nbr w) U K K.length) U.length (by omega) ⟨_, 0, rfl, FB.start G.here, rfl⟩ ?_
    rintro k e ⟨K, n, rfl, f, rfl⟩
    refine ⟨decide ((n : Int) < (K.length : Nat)), E0 r w K n, by simp [eC, eVar, eFrz, bV, bS, aNil, aCons, aStar, eOp, eUn, eB, eM, eCall, eIf, eAnd, eOr, eNot, eChain, eTup, eLst, deref, derefs, valsOf, tB, tAnd, tOr, tNot, tTrue, iSeq, gName, gAll, gTup, ownL, ownT, gAt, eAppend, ePopK, ePopL, eSeqM, sNext, sSeq, sDrop, sRet, sRetN, sIf, sSet, sAsg, sNew, sNever, sFor, sRetOwn, entry, entryM, outOf, wipeE, backE, aPar, putE, sPar, eSl, pNo, pInt, eIsa, isaOf, one, two, way_any, way_near, way_move, way_front, way_ring, way_ff, way_turns, E0, len_line], fun hc => ?_, fun hc => ?_⟩
    · have hc := of_decide_eq_false hc
      have := f.le
      have e : n = K.length := by omega
      subst e
      exact ⟨K, rfl, f⟩
    · have hc := of_decide_eq_true hc
      have hn : n < K.length := by omega
      have hu : K[n]? = some (K[n].1, K[n].2) := List.getElem?_eq_getElem hn
      obtain ⟨e', h1, K', rfl, f'⟩ := far_inner G f hu
      have sz := f'.size
      have le := f'.le
      refine ⟨E1 r w K[n].1 n K', U.length - (n + 1), ?_, by omega, K', n + 1, by simp [eC, eVar, eFrz, bV, bS, aNil, aCons, aStar, eOp, eUn, eB, eM, eCall, eIf, eAnd, eOr, eNot, eChain, eTup, eLst, deref, derefs, valsOf, tB, tAnd, tOr, tNot, tTrue, iSeq, gName, gAll, gTup, ownL, ownT, gAt, eAppend, ePopK, ePopL, eSeqM, sNext, sSeq, sDrop, sRet, sRetN, sIf, sSet, sAsg, sNew, sNever, sFor, sRetOwn, entry, entryM, outOf, wipeE, backE, aPar, putE, sPar, eSl, pNo, pInt, eIsa, isaOf, one, two, way_any, way_near, way_move, way_front, way_ring, way_ff, way_turns, E1, E0], f', rfl⟩
      have hp : sPar [5, 4] [(.p, eOp opIx (bS 3) (bV (eVar 4))), (.p, eOp opAdd (bV (eVar 4)) (bV (eC (.int 1))))] (E0 r w K n) = .ok (.nx, E1 r w K[n].1 n K) := by
        simp [eC, eVar, eFrz, bV, bS, aNil, aCons, aStar, eOp, eUn, eB, eM, eCall, eIf, eAnd, eOr, eNot, eChain, eTup, eLst, deref, derefs, valsOf, tB, tAnd, tOr, tNot, tTrue, iSeq, gName, gAll, gTup, ownL, ownT, gAt, eAppend, ePopK, ePopL, eSeqM, sNext, sSeq, sDrop, sRet, sRetN, sIf, sSet, sAsg, sNew, sNever, sFor, sRetOwn, entry, entryM, outOf, wipeE, backE, aPar, putE, sPar, eSl, pNo, pInt, eIsa, isaOf, one, two, way_any, way_near, way_move, way_front, way_ring, way_ff, way_turns, E0, E1, ix_line hu]
      rw [seq_nx hp]
      exact h1
  obtain ⟨e', h1, K, rfl, f⟩ := hb
  refine ⟨K, ?_, f.lab rfl, f.us, ne_nil f⟩
  have hp : sPar [2, 3, 4] [(.dt, eD1 (eVar 0) (eC (.int 0))), (.m, eLst (aCons (bV (eVar 0)) (aNil))), (.p, eC (.int 0))] [some ⟨.p, rowD r⟩, some ⟨.p, w.d⟩, none, none, none, none, none, none] = .ok (.nx, E0 r w [(r, 0)] 0) := by
    simp [eC, eVar, eFrz, bV, bS, aNil, aCons, aStar, eOp, eUn, eB, eM, eCall, eIf, eAnd, eOr, eNot, eChain, eTup, eLst, deref, derefs, valsOf, tB, tAnd, tOr, tNot, tTrue, iSeq, gName, gAll, gTup, ownL, ownT, gAt, eAppend, ePopK, ePopL, eSeqM, sNext, sSeq, sDrop, sRet, sRetN, sIf, sSet, sAsg, sNew, sNever, sFor, sRetOwn, entry, entryM, outOf, wipeE, backE, aPar, putE, sPar, eSl, pNo, pInt, eIsa, isaOf, one, two, way_any, way_near, way_move, way_front, way_ring, way_ff, way_turns, E0, eD1, kvD, lineD]
  simp only [g_far_from, defP, b_far_from]
  rw [if_pos ⟨rfl, by omega⟩]
  show outOf (sSeq _ _ [some ⟨.p, rowD r⟩, some ⟨.p, w.d⟩, none, none, none, none, none, none]) = _
  rw [seq_nx hp, seq_nx h1]
  simp [eC, eVar, eFrz, bV, bS, aNil, aCons, aStar, eOp, eUn, eB, eM, eCall, eIf, eAnd, eOr, eNot, eChain, eTup, eLst, deref, derefs, valsOf, tB, tAnd, tOr, tNot, tTrue, iSeq, gName, gAll, gTup, ownL, ownT, gAt, eAppend, ePopK, ePopL, eSeqM, sNext, sSeq, sDrop, sRet, sRetN, sIf, sSet, sAsg, sNew, sNever, sFor, sRetOwn, entry, entryM, outOf, wipeE, backE, aPar, putE, sPar, eSl, pNo, pInt, eIsa, isaOf, one, two, way_any, way_near, way_move, way_front, way_ring, way_ff, way_turns, E0]
end WP
end
section
set_option Elab.async false
set_option linter.all false
set_option maxRecDepth 100000
set_option autoImplicit false
/-! PL8: how many at each distance. -/
namespace WP
open PySem PySem.Spec
def maxOf : List Int → Int
  | [] => 0
  | x :: r => r.foldl max x
theorem foldmax_ge : ∀ (r : List Int) (x : Int), x ≤ r.foldl max x ∧ ∀ y ∈ r, y ≤ r.foldl max x
  | [], x => ⟨Int.le_refl _, fun _ h => by cases h⟩
  | z :: r, x => by
    obtain ⟨h1, h2⟩ := foldmax_ge r (max x z)
    rw [List.foldl_cons]
    refine ⟨by omega, fun y hy => ?_⟩
    rcases List.mem_cons.mp hy with e | e
    · rw [e]; omega
    · exact h2 y e
theorem foldmax_mem : ∀ (r : List Int) (x : Int), r.foldl max x = x ∨ r.foldl max x ∈ r
  | [], x => .inl rfl
  | z :: r, x => by
    rw [List.foldl_cons]
    rcases foldmax_mem r (max x z) with e | e
    · rw [e]
      rcases Int.le_total x z with h | h
      · rw [Int.max_eq_right h]; exact .inr List.mem_cons_self
      · rw [Int.max_eq_left h]; exact .inl rfl
    · exact .inr (List.mem_cons_of_mem _ e)
theorem maxOf_ge {l : List Int} {y : Int} (h : y ∈ l) : y ≤ maxOf l := by
  cases l with
  | nil => cases h
  | cons x r =>
    obtain ⟨h1, h2⟩ := foldmax_ge r x
    rcases List.mem_cons.mp h with e | e
    · rw [e]; exact h1
    · exact h2 y e
theorem maxOf_mem {l : List Int} (h : l ≠ []) : maxOf l ∈ l := by
  cases l with
  | nil => exact absurd rfl h
  | cons x r =>
    rcases foldmax_mem r x with e | e
    · show r.foldl max x ∈ x :: r
      rw [e]; exact List.mem_cons_self
    · exact List.mem_cons_of_mem _ e
theorem max_ints {l : List Int} (h : l ≠ []) : bMax (.list (l.map .int)) = some (.int (maxOf l)) := by
  cases l with
  | nil => exact absurd rfl h
  | cons x r =>
    have al : alikeB (PyData.int x :: r.map PyData.int) = true := by
      unfold alikeB
      simp only [Bool.and_eq_true]
      refine ⟨⟨okN_ints 40 (x :: r), ?_⟩, ?_⟩
      · rw [List.all_eq_true]
        intro a ha
        rw [List.all_eq_true]
        intro b hb
        obtain ⟨i, _, rfl⟩ := List.mem_map.mp (show a ∈ (x :: r).map PyData.int from ha)
        obtain ⟨j, _, rfl⟩ := List.mem_map.mp (show b ∈ (x :: r).map PyData.int from hb)
        simp [eC, eVar, eFrz, bV, bS, aNil, aCons, aStar, eOp, eUn, eB, eM, eCall, eIf, eAnd, eOr, eNot, eChain, eTup, eLst, deref, derefs, valsOf, tB, tAnd, tOr, tNot, tTrue, iSeq, gName, gAll, gTup, ownL, ownT, gAt, eAppend, ePopK, ePopL, eSeqM, sNext, sSeq, sDrop, sRet, sRetN, sIf, sSet, sAsg, sNew, sNever, sFor, sRetOwn, entry, entryM, outOf, wipeE, backE, aPar, putE, sPar, eSl, pNo, pInt, eIsa, isaOf, one, two, way_any, way_near, way_move, way_front, way_ring, way_ff, way_turns, PySem.W.alike]
      · rw [List.all_eq_true]
        intro a ha
        obtain ⟨i, _, rfl⟩ := List.mem_map.mp (show a ∈ (x :: r).map PyData.int from ha)
        rfl
    simp only [bMax, listOf_list, Option.bind_some, List.map_cons]
    rw [if_pos al, PySem.W.maxD_ints]; rfl
def valsK (K : Tab) : List Int := K.map (·.2)
def spreadOf (l : List Int) : Row := (List.range ((maxOf l).toNat + 1)).map fun k : Nat => ((l.count (k : Int) : Nat) : Int)
theorem maxOf_perm {l l' : List Int} (p : l.Perm l') : maxOf l = maxOf l' := by
  by_cases h : l = []
  · subst h
    rw [List.nil_perm.mp p]
  · have h' : l' ≠ [] := fun z => h (List.perm_nil.mp (z ▸ p))
    have a := maxOf_ge (p.mem_iff.mp (maxOf_mem h))
    have b := maxOf_ge (p.mem_iff.mpr (maxOf_mem h'))
    omega
theorem spreadOf_perm {l l' : List Int} (p : l.Perm l') : spreadOf l = spreadOf l' := by
  unfold spreadOf
  rw [maxOf_perm p]
  exact List.map_congr_left fun k _ => by rw [p.count_eq]
/-- all nearer distances are met -/
theorem Lab.down {s : Row} {N : Row → List Row} {L : Tab} (l : Lab s N L) : ∀ (n : Nat) (v : Row) (d : Int), d.toNat = n → (v, d) ∈ L → ∀ e, 0 ≤ e → e ≤ d → ∃ u, (u, e) ∈ L := by
  intro n
  induction n with
  | zero =>
    intro v d hn h e h0 h1
    have := l.nonneg h
    have e2 : e = d := by omega
    exact ⟨v, e2 ▸ h⟩
  | succ n ih =>
    intro v d hn h e h0 h1
    by_cases z : e = d
    · exact ⟨v, z ▸ h⟩
    · rcases l.pred v d h with ⟨_, q⟩ | ⟨q, u, hu, _⟩
      · omega
      · exact ih u (d - 1) (by omega) hu e h0 (by omega)
theorem Lab.small {s : Row} {N : Row → List Row} {L : Tab} (l : Lab s N L) {v : Row} {d : Int} (h : (v, d) ∈ L) : d.toNat + 1 ≤ L.length := by
  have := len_le ((List.range (d.toNat + 1)).map fun k : Nat => (k : Int)) (valsK L) (by
    rw [List.nodup_iff_pairwise_ne, List.pairwise_map]
    exact (List.nodup_iff_pairwise_ne.mp List.nodup_range).imp fun h e => h (Int.ofNat_inj.mp e)) (fun x hx => by
    obtain ⟨k, hk, rfl⟩ := List.mem_map.mp hx
    have hk := List.mem_range.mp hk
    have n0 := l.nonneg h
    obtain ⟨u, hu⟩ := l.down _ v d rfl h (k : Int) (by omega) (by omega)
    exact List.mem_map.mpr ⟨_, hu, rfl⟩)
  unfold valsK at this
  rwa [List.length_map, List.length_range, List.length_map] at this
theorem Lab.vals {s : Row} {N : Row → List Row} {L : Tab} (l : Lab s N L) : valsK L ≠ [] ∧ (∀ d ∈ valsK L, 0 ≤ d) ∧ (maxOf (valsK L)).toNat + 1 ≤ L.length ∧ (((maxOf (valsK L)).toNat : Nat) : Int) = maxOf (valsK L) := by
  have h0 : (0 : Int) ∈ valsK L := List.mem_map.mpr ⟨_, l.start, rfl⟩
  have hn : valsK L ≠ [] := fun z => by rw [z] at h0; cases h0
  have hp : ∀ d ∈ valsK L, 0 ≤ d := fun d hd => by
    obtain ⟨p, hp, rfl⟩ := List.mem_map.mp hd
    exact l.nonneg (v := p.1) hp
  have hm := maxOf_mem hn
  obtain ⟨p, hp2, e⟩ := List.mem_map.mp hm
  have := l.small (v := p.1) (d := p.2) hp2
  rw [e] at this
  exact ⟨hn, hp, this, by have := hp _ hm; omega⟩
theorem spread_way {r : Row} {w : Way} {U : List Row} (G : Ground r w U) : ∃ K, Lab r (nbr w) K ∧ (∀ p ∈ K, p.1 ∈ U) ∧ g_spread_by [rowD r, w.d] = .ok (rowD (spreadOf (valsK K))) := by
  obtain ⟨K, hf, l, hU, hn⟩ := far_way G
  refine ⟨K, l, hU, ?_⟩
  have g3 := G.few
  have sz : K.length ≤ U.length := by
    have := len_le (K.map (·.1)) U l.nd fun x hx => by
      obtain ⟨p, hp, e⟩ := List.mem_map.mp hx
      rw [← e]; exact hU p hp
    rwa [List.length_map] at this
  obtain ⟨v1, v2, v3, v4⟩ := l.vals
  have e1 := eComp_map (own := [3, 4]) (it := iItemsT (eCall g_far_from (aCons (bV (eVar 0)) (aCons (bV (eVar 1)) aNil)))) (g := WP.gTup [WP.gName 3, WP.gName 4]) (f := eVar 4) (env := [some ⟨.p, rowD r⟩, some ⟨.p, w.d⟩, none, none, none]) (env1 := [some ⟨.p, rowD r⟩, some ⟨.p, w.d⟩, none, none, none])
    (fun p : Row × Int => PyData.tuple [rowD p.1, .int p.2]) (fun p => PyData.int p.2) (ys := K) (by
      unfold iItemsT
      simp [eC, eVar, eFrz, bV, bS, aNil, aCons, aStar, eOp, eUn, eB, eM, eCall, eIf, eAnd, eOr, eNot, eChain, eTup, eLst, deref, derefs, valsOf, tB, tAnd, tOr, tNot, tTrue, iSeq, gName, gAll, gTup, ownL, ownT, gAt, eAppend, ePopK, ePopL, eSeqM, sNext, sSeq, sDrop, sRet, sRetN, sIf, sSet, sAsg, sNew, sNever, sFor, sRetOwn, entry, entryM, outOf, wipeE, backE, aPar, putE, sPar, eSl, pNo, pInt, eIsa, isaOf, one, two, way_any, way_near, way_move, way_front, way_ring, way_ff, way_turns, hf, isT_kv hn]
      simp [eC, eVar, eFrz, bV, bS, aNil, aCons, aStar, eOp, eUn, eB, eM, eCall, eIf, eAnd, eOr, eNot, eChain, eTup, eLst, deref, derefs, valsOf, tB, tAnd, tOr, tNot, tTrue, iSeq, gName, gAll, gTup, ownL, ownT, gAt, eAppend, ePopK, ePopL, eSeqM, sNext, sSeq, sDrop, sRet, sRetN, sIf, sSet, sAsg, sNew, sNever, sFor, sRetOwn, entry, entryM, outOf, wipeE, backE, aPar, putE, sPar, eSl, pNo, pInt, eIsa, isaOf, one, two, way_any, way_near, way_move, way_front, way_ring, way_ff, way_turns, kvD]) (by omega) (fun y hy => ⟨_, _, by simp [eC, eVar, eFrz, bV, bS, aNil, aCons, aStar, eOp, eUn, eB, eM, eCall, eIf, eAnd, eOr, eNot, eChain, eTup, eLst, deref, derefs, valsOf, tB, tAnd, tOr, tNot, tTrue, iSeq, gName, gAll, gTup, ownL, ownT, gAt, eAppend, ePopK, ePopL, eSeqM, sNext, sSeq, sDrop, sRet, sRetN, sIf, sSet, sAsg, sNew, sNever, sFor, sRetOwn, entry, entryM, outOf, wipeE, backE, aPar, putE, sPar, eSl, pNo, pInt, eIsa, isaOf, one, two, way_any, way_near, way_move, way_front, way_ring, way_ff, way_turns]; rfl, by simp [eC, eVar, eFrz, bV, bS, aNil, aCons, aStar, eOp, eUn, eB, eM, eCall, eIf, eAnd, eOr, eNot, eChain, eTup, eLst, deref, derefs, valsOf, tB, tAnd, tOr, tNot, tTrue, iSeq, gName, gAll, gTup, ownL, ownT, gAt, eAppend, ePopK, ePopL, eSeqM, sNext, sSeq, sDrop, sRet, sRetN, sIf, sSet, sAsg, sNew, sNever, sFor, sRetOwn, entry, entryM, outOf, wipeE, backE, aPar, putE, sPar, eSl, pNo, pInt, eIsa, isaOf, one, two, way_any, way_near, way_move, way_front, way_ring, way_ff, way_turns]; rfl, by simp [eC, eVar, eFrz, bV, bS, aNil, aCons, aStar, eOp, eUn, eB, eM, eCall, eIf, eAnd, eOr, eNot, eChain, eTup, eLst, deref, derefs, valsOf, tB, tAnd, tOr, tNot, tTrue, iSeq, gName, gAll, gTup, ownL, ownT, gAt, eAppend, ePopK, ePopL, eSeqM, sNext, sSeq, sDrop, sRet, sRetN, sIf, sSet, sAsg, sNew, sNever, sFor, sRetOwn, entry, entryM, outOf, wipeE, backE, aPar, putE, sPar, eSl, pNo, pInt, eIsa, isaOf, one, two, way_any, way_near, way_move, way_front, way_ring, way_ff, way_turns]⟩)
  have e1' : K.map (fun p => PyData.int p.2) = (valsK K).map .int := by unfold valsK; rw [List.map_map]; rfl
  rw [e1'] at e1
  have e2 := eComp_map (own := [4]) (it := iRange1 (eOp opAdd (bV (eB (one bMax) (aCons (bV (eVar 2)) aNil))) (bV (eC (.int 1))))) (g := WP.gName 4) (f := eSeqM mCount (eVar 2) (aCons (bV (eVar 4)) aNil)) (env := [some ⟨.p, rowD r⟩, some ⟨.p, w.d⟩, some ⟨.p, .list ((valsK K).map .int)⟩, none, none])
    (env1 := [some ⟨.p, rowD r⟩, some ⟨.p, w.d⟩, some ⟨.p, .list ((valsK K).map .int)⟩, none, none]) (fun i : Nat => PyData.int (i : Nat)) (fun i : Nat => PyData.int (((valsK K).count (i : Int) : Nat) : Int)) (ys := List.range ((maxOf (valsK K)).toNat + 1))
    (range1_of (by simp [eC, eVar, eFrz, bV, bS, aNil, aCons, aStar, eOp, eUn, eB, eM, eCall, eIf, eAnd, eOr, eNot, eChain, eTup, eLst, deref, derefs, valsOf, tB, tAnd, tOr, tNot, tTrue, iSeq, gName, gAll, gTup, ownL, ownT, gAt, eAppend, ePopK, ePopL, eSeqM, sNext, sSeq, sDrop, sRet, sRetN, sIf, sSet, sAsg, sNew, sNever, sFor, sRetOwn, entry, entryM, outOf, wipeE, backE, aPar, putE, sPar, eSl, pNo, pInt, eIsa, isaOf, one, two, way_any, way_near, way_move, way_front, way_ring, way_ff, way_turns, max_ints v1]; omega) (by omega)) (by rw [List.length_range]; omega) (fun y hy => ⟨_, _, rfl, by simp [eC, eVar, eFrz, bV, bS, aNil, aCons, aStar, eOp, eUn, eB, eM, eCall, eIf, eAnd, eOr, eNot, eChain, eTup, eLst, deref, derefs, valsOf, tB, tAnd, tOr, tNot, tTrue, iSeq, gName, gAll, gTup, ownL, ownT, gAt, eAppend, ePopK, ePopL, eSeqM, sNext, sSeq, sDrop, sRet, sRetN, sIf, sSet, sAsg, sNew, sNever, sFor, sRetOwn, entry, entryM, outOf, wipeE, backE, aPar, putE, sPar, eSl, pNo, pInt, eIsa, isaOf, one, two, way_any, way_near, way_move, way_front, way_ring, way_ff, way_turns, count_list]; rfl, by simp [eC, eVar, eFrz, bV, bS, aNil, aCons, aStar, eOp, eUn, eB, eM, eCall, eIf, eAnd, eOr, eNot, eChain, eTup, eLst, deref, derefs, valsOf, tB, tAnd, tOr, tNot, tTrue, iSeq, gName, gAll, gTup, ownL, ownT, gAt, eAppend, ePopK, ePopL, eSeqM, sNext, sSeq, sDrop, sRet, sRetN, sIf, sSet, sAsg, sNew, sNever, sFor, sRetOwn, entry, entryM, outOf, wipeE, backE, aPar, putE, sPar, eSl, pNo, pInt, eIsa, isaOf, one, two, way_any, way_near, way_move, way_front, way_ring, way_ff, way_turns]⟩)
  simp only [g_spread_by, defP, b_spread_by]
  simp [eC, eVar, eFrz, bV, bS, aNil, aCons, aStar, eOp, eUn, eB, eM, eCall, eIf, eAnd, eOr, eNot, eChain, eTup, eLst, deref, derefs, valsOf, tB, tAnd, tOr, tNot, tTrue, iSeq, gName, gAll, gTup, ownL, ownT, gAt, eAppend, ePopK, ePopL, eSeqM, sNext, sSeq, sDrop, sRet, sRetN, sIf, sSet, sAsg, sNew, sNever, sFor, sRetOwn, entry, entryM, outOf, wipeE, backE, aPar, putE, sPar, eSl, pNo, pInt, eIsa, isaOf, one, two, way_any, way_near, way_move, way_front, way_ring, way_ff, way_turns, e1, e2]
  simp [eC, eVar, eFrz, bV, bS, aNil, aCons, aStar, eOp, eUn, eB, eM, eCall, eIf, eAnd, eOr, eNot, eChain, eTup, eLst, deref, derefs, valsOf, tB, tAnd, tOr, tNot, tTrue, iSeq, gName, gAll, gTup, ownL, ownT, gAt, eAppend, ePopK, ePopL, eSeqM, sNext, sSeq, sDrop, sRet, sRetN, sIf, sSet, sAsg, sNew, sNever, sFor, sRetOwn, entry, entryM, outOf, wipeE, backE, aPar, putE, sPar, eSl, pNo, pInt, eIsa, isaOf, one, two, way_any, way_near, way_move, way_front, way_ring, way_ff, way_turns, spreadOf, rowD, List.map_map, Function.comp_def]
end WP
end
section
set_option Elab.async false
set_option linter.all false
set_option maxRecDepth 100000
set_option autoImplicit false
/-! PL9: one step of the law. -/
namespace WP
open PySem PySem.Spec
@[simp] theorem eqo_int (a b : Int) : opEq (.int a) (.int b) = some (.bool (decide (a = b))) := by simp [eC, eVar, eFrz, bV, bS, aNil, aCons, aStar, eOp, eUn, eB, eM, eCall, eIf, eAnd, eOr, eNot, eChain, eTup, eLst, deref, derefs, valsOf, tB, tAnd, tOr, tNot, tTrue, iSeq, gName, gAll, gTup, ownL, ownT, gAt, eAppend, ePopK, ePopL, eSeqM, sNext, sSeq, sDrop, sRet, sRetN, sIf, sSet, sAsg, sNew, sNever, sFor, sRetOwn, entry, entryM, outOf, wipeE, backE, aPar, putE, sPar, eSl, pNo, pInt, eIsa, isaOf, one, two, way_any, way_near, way_move, way_front, way_ring, way_ff, way_turns, opEq]
theorem add_row {a b : Row} (h : a.length + b.length ≤ 16777216) : opAdd (rowD a) (rowD b) = some (rowD (a ++ b)) := by
  have h' : (a.map PyData.int).length + (b.map PyData.int).length ≤ line := by rw [List.length_map, List.length_map]; exact h
  simp only [opAdd, rowD]
  rw [if_pos h', List.map_append]
theorem e_addR {f g : EF} {env : Env} {a b : Row} (hf : f env = .ok (rowD a, env)) (hg : g env = .ok (rowD b, env)) (h : a.length + b.length ≤ 16777216) : eOp opAdd (bV f) (bV g) env = .ok (rowD (a ++ b), env) := by
  unfold eOp bV
  rw [hf, ok_bind, ok_bind]
  dsimp only
  rw [hg]
  simp only [ok_bind, deref, add_row h, opt_some]
def restR (r : Row) (i : Nat) : Row := r.take i ++ r.drop (i + 1)
def swapR (r : Row) (i j : Nat) : Row := r.take i ++ [nth r j] ++ (r.drop (i + 1)).take (j - (i + 1)) ++ [nth r i] ++ r.drop (j + 1)
def stepAt (w : Way) (r : Row) (i j : Nat) : List Row :=
  if w = .move ∨ (w = .front ∧ j = 0) then [shiftR r i j] else if i < j ∧ (w = .any ∨ (w = .near ∧ j = i + 1)) then [swapR r i j] else []
def lawSteps (w : Way) (r : Row) : List Row := (List.range r.length).flatMap fun i => (List.range r.length).flatMap fun j => stepAt w r i j
def rowsD (l : List Row) : D := .list (l.map rowD)
theorem tup1 (x : Int) : PyData.tuple [.int x] = rowD [x] := rfl
section
variable {r : Row} {w : Way} {i j : Nat} {acc : List Row} {x : Option Sl}
def S0 (r : Row) (w : Way) (acc : List Row) (i j x : Option Sl) : Env := [some ⟨.p, rowD r⟩, some ⟨.p, w.d⟩, some ⟨.m, rowsD acc⟩, some ⟨.p, .int (r.length : Nat)⟩, i, j, x]
abbrev sl (i : Nat) : Option Sl := some ⟨.p, .int (i : Nat)⟩
theorem take_len (l : Row) (n : Nat) : (l.take n).length ≤ l.length := by rw [List.length_take]; omega
theorem drop_len (l : Row) (n : Nat) : (l.drop n).length ≤ l.length := by rw [List.length_drop]; omega
theorem rest_len (r : Row) (i : Nat) : (restR r i).length ≤ 2 * r.length := by
  unfold restR
  have := take_len r i
  have := drop_len r (i + 1)
  rw [List.length_append]; omega
theorem e_rest (hr : r.length ≤ 1000) : eOp opAdd (bV (eSl (bV (eVar 0)) (pNo) (pInt (eVar 4)))) (bV (eSl (bV (eVar 0)) (pInt (eOp opAdd (bV (eVar 4)) (bV (eC (.int 1))))) (pNo))) (S0 r w acc (sl i) (sl j) x) = .ok (rowD (restR r i), S0 r w acc (sl i) (sl j) x) := by
  have a := take_len r i
  have b := drop_len r (i + 1)
  exact e_addR (by simp [eC, eVar, eFrz, bV, bS, aNil, aCons, aStar, eOp, eUn, eB, eM, eCall, eIf, eAnd, eOr, eNot, eChain, eTup, eLst, deref, derefs, valsOf, tB, tAnd, tOr, tNot, tTrue, iSeq, gName, gAll, gTup, ownL, ownT, gAt, eAppend, ePopK, ePopL, eSeqM, sNext, sSeq, sDrop, sRet, sRetN, sIf, sSet, sAsg, sNew, sNever, sFor, sRetOwn, entry, entryM, outOf, wipeE, backE, aPar, putE, sPar, eSl, pNo, pInt, eIsa, isaOf, one, two, way_any, way_near, way_move, way_front, way_ring, way_ff, way_turns, S0, sl]) (by simp [eC, eVar, eFrz, bV, bS, aNil, aCons, aStar, eOp, eUn, eB, eM, eCall, eIf, eAnd, eOr, eNot, eChain, eTup, eLst, deref, derefs, valsOf, tB, tAnd, tOr, tNot, tTrue, iSeq, gName, gAll, gTup, ownL, ownT, gAt, eAppend, ePopK, ePopL, eSeqM, sNext, sSeq, sDrop, sRet, sRetN, sIf, sSet, sAsg, sNew, sNever, sFor, sRetOwn, entry, entryM, outOf, wipeE, backE, aPar, putE, sPar, eSl, pNo, pInt, eIsa, isaOf, one, two, way_any, way_near, way_move, way_front, way_ring, way_ff, way_turns, S0, sl]) (by omega)
theorem e_one {k l : Nat} (hk : k < r.length) {env : Env} (h0 : env[0]? = some (some ⟨.p, rowD r⟩)) (h1 : env[l]? = some (sl k)) : eTup (aCons (bV (eOp opIx (bV (eVar 0)) (bV (eVar l)))) (aNil)) env = .ok (rowD [nth r k], env) := by
  simp [eC, eVar, eFrz, bV, bS, aNil, aCons, aStar, eOp, eUn, eB, eM, eCall, eIf, eAnd, eOr, eNot, eChain, eTup, eLst, deref, derefs, valsOf, tB, tAnd, tOr, tNot, tTrue, iSeq, gName, gAll, gTup, ownL, ownT, gAt, eAppend, ePopK, ePopL, eSeqM, sNext, sSeq, sDrop, sRet, sRetN, sIf, sSet, sAsg, sNew, sNever, sFor, sRetOwn, entry, entryM, outOf, wipeE, backE, aPar, putE, sPar, eSl, pNo, pInt, eIsa, isaOf, one, two, way_any, way_near, way_move, way_front, way_ring, way_ff, way_turns, h0, h1, sl, ix_get hk, tup1]
theorem e_shift (hr : r.length ≤ 1000) (hi : i < r.length) : eOp opAdd (bV (eOp opAdd (bV (eSl (bV (eVar 6)) (pNo) (pInt (eVar 5)))) (bV (eTup (aCons (bV (eOp opIx (bV (eVar 0)) (bV (eVar 4)))) (aNil)))))) (bV (eSl (bV (eVar 6)) (pInt (eVar 5)) (pNo))) (S0 r w acc (sl i) (sl j) (some ⟨.p, rowD (restR r i)⟩)) =
    .ok (rowD (shiftR r i j), S0 r w acc (sl i) (sl j) (some ⟨.p, rowD (restR r i)⟩)) := by
  have a := take_len (restR r i) j
  have b := drop_len (restR r i) j
  have c := rest_len r i
  have e := e_addR (f := eOp opAdd (bV (eSl (bV (eVar 6)) (pNo) (pInt (eVar 5)))) (bV (eTup (aCons (bV (eOp opIx (bV (eVar 0)) (bV (eVar 4)))) (aNil))))) (g := eSl (bV (eVar 6)) (pInt (eVar 5)) (pNo)) (env := S0 r w acc (sl i) (sl j) (some ⟨.p, rowD (restR r i)⟩)) (a := (restR r i).take j ++ [nth r i]) (b := (restR r i).drop j)
    (e_addR (by simp [eC, eVar, eFrz, bV, bS, aNil, aCons, aStar, eOp, eUn, eB, eM, eCall, eIf, eAnd, eOr, eNot, eChain, eTup, eLst, deref, derefs, valsOf, tB, tAnd, tOr, tNot, tTrue, iSeq, gName, gAll, gTup, ownL, ownT, gAt, eAppend, ePopK, ePopL, eSeqM, sNext, sSeq, sDrop, sRet, sRetN, sIf, sSet, sAsg, sNew, sNever, sFor, sRetOwn, entry, entryM, outOf, wipeE, backE, aPar, putE, sPar, eSl, pNo, pInt, eIsa, isaOf, one, two, way_any, way_near, way_move, way_front, way_ring, way_ff, way_turns, S0, sl]) (e_one hi rfl rfl) (by rw [List.length_singleton]; omega)) (by simp [eC, eVar, eFrz, bV, bS, aNil, aCons, aStar, eOp, eUn, eB, eM, eCall, eIf, eAnd, eOr, eNot, eChain, eTup, eLst, deref, derefs, valsOf, tB, tAnd, tOr, tNot, tTrue, iSeq, gName, gAll, gTup, ownL, ownT, gAt, eAppend, ePopK, ePopL, eSeqM, sNext, sSeq, sDrop, sRet, sRetN, sIf, sSet, sAsg, sNew, sNever, sFor, sRetOwn, entry, entryM, outOf, wipeE, backE, aPar, putE, sPar, eSl, pNo, pInt, eIsa, isaOf, one, two, way_any, way_near, way_move, way_front, way_ring, way_ff, way_turns, S0, sl]) (by rw [List.length_append, List.length_singleton]; omega)
  rw [e]
  unfold shiftR restR
  rw [List.append_assoc]; rfl
theorem e_swap (hr : r.length ≤ 1000) (hi : i < r.length) (hj : j < r.length) : eOp opAdd (bV (eOp opAdd (bV (eOp opAdd (bV (eOp opAdd (bV (eSl (bV (eVar 0)) (pNo) (pInt (eVar 4)))) (bV (eTup (aCons (bV (eOp opIx (bV (eVar 0)) (bV (eVar 5)))) (aNil)))))) (bV (eSl (bV (eVar 0)) (pInt (eOp opAdd (bV (eVar 4)) (bV (eC (.int 1))))) (pInt (eVar 5)))))) (bV (eTup (aCons (bV (eOp opIx (bV (eVar 0)) (bV (eVar 4)))) (aNil)))))) (bV (eSl (bV (eVar 0)) (pInt (eOp opAdd (bV (eVar 5)) (bV (eC (.int 1))))) (pNo))) (S0 r w acc (sl i) (sl j) x) =
    .ok (rowD (swapR r i j), S0 r w acc (sl i) (sl j) x) := by
  have a := take_len r i
  have b := drop_len r (j + 1)
  have c : ((r.drop (i + 1)).take (j - (i + 1))).length ≤ r.length := Nat.le_trans (take_len _ _) (drop_len r (i + 1))
  exact e_addR (e_addR (e_addR (e_addR (by simp [eC, eVar, eFrz, bV, bS, aNil, aCons, aStar, eOp, eUn, eB, eM, eCall, eIf, eAnd, eOr, eNot, eChain, eTup, eLst, deref, derefs, valsOf, tB, tAnd, tOr, tNot, tTrue, iSeq, gName, gAll, gTup, ownL, ownT, gAt, eAppend, ePopK, ePopL, eSeqM, sNext, sSeq, sDrop, sRet, sRetN, sIf, sSet, sAsg, sNew, sNever, sFor, sRetOwn, entry, entryM, outOf, wipeE, backE, aPar, putE, sPar, eSl, pNo, pInt, eIsa, isaOf, one, two, way_any, way_near, way_move, way_front, way_ring, way_ff, way_turns, S0, sl]) (e_one hj rfl rfl) (by rw [List.length_singleton]; omega)) (by simp [eC, eVar, eFrz, bV, bS, aNil, aCons, aStar, eOp, eUn, eB, eM, eCall, eIf, eAnd, eOr, eNot, eChain, eTup, eLst, deref, derefs, valsOf, tB, tAnd, tOr, tNot, tTrue, iSeq, gName, gAll, gTup, ownL, ownT, gAt, eAppend, ePopK, ePopL, eSeqM, sNext, sSeq, sDrop, sRet, sRetN, sIf, sSet, sAsg, sNew, sNever, sFor, sRetOwn, entry, entryM, outOf, wipeE, backE, aPar, putE, sPar, eSl, pNo, pInt, eIsa, isaOf, one, two, way_any, way_near, way_move, way_front, way_ring, way_ff, way_turns, S0, sl]) (by rw [List.length_append, List.length_singleton]; omega)) (e_one hi rfl rfl) (by rw [List.length_append, List.length_append, List.length_singleton, List.length_singleton]; omega)) (by simp [eC, eVar, eFrz, bV, bS, aNil, aCons, aStar, eOp, eUn, eB, eM, eCall, eIf, eAnd, eOr, eNot, eChain, eTup, eLst, deref, derefs, valsOf, tB, tAnd, tOr, tNot, tTrue, iSeq, gName, gAll, gTup, ownL, ownT, gAt, eAppend, ePopK, ePopL, eSeqM, sNext, sSeq, sDrop, sRet, sRetN, sIf, sSet, sAsg, sNew, sNever, sFor, sRetOwn, entry, entryM, outOf, wipeE, backE, aPar, putE, sPar, eSl, pNo, pInt, eIsa, isaOf, one, two, way_any, way_near, way_move, way_front, way_ring, way_ff, way_turns, S0, sl])
    (by rw [List.length_append, List.length_append, List.length_append, List.length_singleton, List.length_singleton]; omega)
/-- the body of the law's inner loop, as the text has it -/
def stepsB : SF := (sIf (WP.tOr (WP.tB (eOp opEq (bV (eVar 1)) (bV (eC (.str "move"))))) (WP.tAnd (WP.tB (eOp opEq (bV (eVar 1)) (bV (eC (.str "front"))))) (WP.tB (eOp opEq (bV (eVar 5)) (bV (eC (.int 0))))))) (sSeq (sSet 6 (eOp opAdd (bV (eSl (bV (eVar 0)) (pNo) (pInt (eVar 4)))) (bV (eSl (bV (eVar 0)) (pInt (eOp opAdd (bV (eVar 4)) (bV (eC (.int 1))))) (pNo))))) (sDrop (eAppend 2 (eOp opAdd (bV (eOp opAdd (bV (eSl (bV (eVar 6)) (pNo) (pInt (eVar 5)))) (bV (eTup (aCons (bV (eOp opIx (bV (eVar 0)) (bV (eVar 4)))) (aNil)))))) (bV (eSl (bV (eVar 6)) (pInt (eVar 5)) (pNo))))))) (sIf (WP.tAnd (WP.tB (eOp opLt (bV (eVar 4)) (bV (eVar 5)))) (WP.tOr (WP.tB (eOp opEq (bV (eVar 1)) (bV (eC (.str "any"))))) (WP.tOr (WP.tAnd (WP.tB (eOp opEq (bV (eVar 1)) (bV (eC (.str "near"))))) (WP.tB (eOp opEq (bV (eVar 5)) (bV (eOp opAdd (bV (eVar 4)) (bV (eC (.int 1)))))))) (WP.tAnd (WP.tB (eOp opEq (bV (eVar 1)) (bV (eC (.str "ring"))))) (WP.tB (eOp opIn (bV (eOp opSub (bV (eVar 5)) (bV (eVar 4)))) (bV (eTup (aCons (bV (eC (.int 1))) (aCons (bV (eOp opSub (bV (eVar 3)) (bV (eC (.int 1))))) (aNil))))))))))) (sDrop (eAppend 2 (eOp opAdd (bV (eOp opAdd (bV (eOp opAdd (bV (eOp opAdd (bV (eSl (bV (eVar 0)) (pNo) (pInt (eVar 4)))) (bV (eTup (aCons (bV (eOp opIx (bV (eVar 0)) (bV (eVar 5)))) (aNil)))))) (bV (eSl (bV (eVar 0)) (pInt (eOp opAdd (bV (eVar 4)) (bV (eC (.int 1))))) (pInt (eVar 5)))))) (bV (eTup (aCons (bV (eOp opIx (bV (eVar 0)) (bV (eVar 4)))) (aNil)))))) (bV (eSl (bV (eVar 0)) (pInt (eOp opAdd (bV (eVar 5)) (bV (eC (.int 1))))) (pNo)))))) (sNext)))
theorem s_append {f : EF} {v : Row} {y : Option Sl} (hf : f (S0 r w acc (sl i) (sl j) y) = .ok (rowD v, S0 r w acc (sl i) (sl j) y)) (ha : acc.length < 16777216) : sDrop (eAppend 2 f) (S0 r w acc (sl i) (sl j) y) = .ok (.nx, S0 r w (acc ++ [v]) (sl i) (sl j) y) := by
  have h1 : ownL (S0 r w acc (sl i) (sl j) y) 2 = .ok (.m, acc.map rowD) := rfl
  unfold sDrop eAppend
  rw [h1, ok_bind, hf, ok_bind]
  dsimp only
  rw [h1, ok_bind]
  dsimp only
  rw [List.length_map, if_pos ha, ok_bind]
  simp [eC, eVar, eFrz, bV, bS, aNil, aCons, aStar, eOp, eUn, eB, eM, eCall, eIf, eAnd, eOr, eNot, eChain, eTup, eLst, deref, derefs, valsOf, tB, tAnd, tOr, tNot, tTrue, iSeq, gName, gAll, gTup, ownL, ownT, gAt, eAppend, ePopK, ePopL, eSeqM, sNext, sSeq, sDrop, sRet, sRetN, sIf, sSet, sAsg, sNew, sNever, sFor, sRetOwn, entry, entryM, outOf, wipeE, backE, aPar, putE, sPar, eSl, pNo, pInt, eIsa, isaOf, one, two, way_any, way_near, way_move, way_front, way_ring, way_ff, way_turns, S0, rowsD]
theorem steps_body (hr : r.length ≤ 1000) (hi : i < r.length) (hj : j < r.length) (ha : acc.length < 16777216) : ∃ x', stepsB (S0 r w acc (sl i) (sl j) x) = .ok (.nx, S0 r w (acc ++ stepAt w r i j) (sl i) (sl j) x') := by
  have hA : w = .move ∨ (w = .front ∧ j = 0) → ∃ x', stepsB (S0 r w acc (sl i) (sl j) x) = .ok (.nx, S0 r w (acc ++ stepAt w r i j) (sl i) (sl j) x') := by
    intro c
    refine ⟨some ⟨.p, rowD (restR r i)⟩, ?_⟩
    have t : WP.tOr (WP.tB (eOp opEq (bV (eVar 1)) (bV (eC (.str "move"))))) (WP.tAnd (WP.tB (eOp opEq (bV (eVar 1)) (bV (eC (.str "front"))))) (WP.tB (eOp opEq (bV (eVar 5)) (bV (eC (.int 0)))))) (S0 r w acc (sl i) (sl j) x) = .ok (true, S0 r w acc (sl i) (sl j) x) := by
      rcases c with c | ⟨c, d⟩
      · subst c; simp [eC, eVar, eFrz, bV, bS, aNil, aCons, aStar, eOp, eUn, eB, eM, eCall, eIf, eAnd, eOr, eNot, eChain, eTup, eLst, deref, derefs, valsOf, tB, tAnd, tOr, tNot, tTrue, iSeq, gName, gAll, gTup, ownL, ownT, gAt, eAppend, ePopK, ePopL, eSeqM, sNext, sSeq, sDrop, sRet, sRetN, sIf, sSet, sAsg, sNew, sNever, sFor, sRetOwn, entry, entryM, outOf, wipeE, backE, aPar, putE, sPar, eSl, pNo, pInt, eIsa, isaOf, one, two, way_any, way_near, way_move, way_front, way_ring, way_ff, way_turns, S0, sl]
      · subst c d; simp [eC, eVar, eFrz, bV, bS, aNil, aCons, aStar, eOp, eUn, eB, eM, eCall, eIf, eAnd, eOr, eNot, eChain, eTup, eLst, deref, derefs, valsOf, tB, tAnd, tOr, tNot, tTrue, iSeq, gName, gAll, gTup, ownL, ownT, gAt, eAppend, ePopK, ePopL, eSeqM, sNext, sSeq, sDrop, sRet, sRetN, sIf, sSet, sAsg, sNew, sNever, sFor, sRetOwn, entry, entryM, outOf, wipeE, backE, aPar, putE, sPar, eSl, pNo, pInt, eIsa, isaOf, one, two, way_any, way_near, way_move, way_front, way_ring, way_ff, way_turns, S0, sl]
    have s1 : sSet 6 (eOp opAdd (bV (eSl (bV (eVar 0)) (pNo) (pInt (eVar 4)))) (bV (eSl (bV (eVar 0)) (pInt (eOp opAdd (bV (eVar 4)) (bV (eC (.int 1))))) (pNo)))) (S0 r w acc (sl i) (sl j) x) = .ok (.nx, S0 r w acc (sl i) (sl j) (some ⟨.p, rowD (restR r i)⟩)) := by
      unfold sSet
      rw [e_rest hr]; rfl
    unfold stepsB sIf
    rw [t, ok_bind]
    dsimp only
    rw [if_pos rfl, seq_nx s1, s_append (e_shift hr hi) ha]
    unfold stepAt
    rw [if_pos c]
  by_cases c : w = .move ∨ (w = .front ∧ j = 0)
  · exact hA c
  · have t : WP.tOr (WP.tB (eOp opEq (bV (eVar 1)) (bV (eC (.str "move"))))) (WP.tAnd (WP.tB (eOp opEq (bV (eVar 1)) (bV (eC (.str "front"))))) (WP.tB (eOp opEq (bV (eVar 5)) (bV (eC (.int 0)))))) (S0 r w acc (sl i) (sl j) x) = .ok (false, S0 r w acc (sl i) (sl j) x) := by
      cases w with
      | move => exact absurd (.inl rfl) c
      | front =>
        have hj0 : ¬ j = 0 := fun z => c (.inr ⟨rfl, z⟩)
        simp [eC, eVar, eFrz, bV, bS, aNil, aCons, aStar, eOp, eUn, eB, eM, eCall, eIf, eAnd, eOr, eNot, eChain, eTup, eLst, deref, derefs, valsOf, tB, tAnd, tOr, tNot, tTrue, iSeq, gName, gAll, gTup, ownL, ownT, gAt, eAppend, ePopK, ePopL, eSeqM, sNext, sSeq, sDrop, sRet, sRetN, sIf, sSet, sAsg, sNew, sNever, sFor, sRetOwn, entry, entryM, outOf, wipeE, backE, aPar, putE, sPar, eSl, pNo, pInt, eIsa, isaOf, one, two, way_any, way_near, way_move, way_front, way_ring, way_ff, way_turns, S0, sl, hj0]
      | any => simp [eC, eVar, eFrz, bV, bS, aNil, aCons, aStar, eOp, eUn, eB, eM, eCall, eIf, eAnd, eOr, eNot, eChain, eTup, eLst, deref, derefs, valsOf, tB, tAnd, tOr, tNot, tTrue, iSeq, gName, gAll, gTup, ownL, ownT, gAt, eAppend, ePopK, ePopL, eSeqM, sNext, sSeq, sDrop, sRet, sRetN, sIf, sSet, sAsg, sNew, sNever, sFor, sRetOwn, entry, entryM, outOf, wipeE, backE, aPar, putE, sPar, eSl, pNo, pInt, eIsa, isaOf, one, two, way_any, way_near, way_move, way_front, way_ring, way_ff, way_turns, S0, sl]
      | near => simp [eC, eVar, eFrz, bV, bS, aNil, aCons, aStar, eOp, eUn, eB, eM, eCall, eIf, eAnd, eOr, eNot, eChain, eTup, eLst, deref, derefs, valsOf, tB, tAnd, tOr, tNot, tTrue, iSeq, gName, gAll, gTup, ownL, ownT, gAt, eAppend, ePopK, ePopL, eSeqM, sNext, sSeq, sDrop, sRet, sRetN, sIf, sSet, sAsg, sNew, sNever, sFor, sRetOwn, entry, entryM, outOf, wipeE, backE, aPar, putE, sPar, eSl, pNo, pInt, eIsa, isaOf, one, two, way_any, way_near, way_move, way_front, way_ring, way_ff, way_turns, S0, sl]
    refine ⟨x, ?_⟩
    unfold stepsB
    unfold sIf
    rw [t, ok_bind]
    dsimp only
    rw [if_neg (by decide)]
    unfold stepAt
    rw [if_neg c]
    have t2 : WP.tAnd (WP.tB (eOp opLt (bV (eVar 4)) (bV (eVar 5)))) (WP.tOr (WP.tB (eOp opEq (bV (eVar 1)) (bV (eC (.str "any"))))) (WP.tOr (WP.tAnd (WP.tB (eOp opEq (bV (eVar 1)) (bV (eC (.str "near"))))) (WP.tB (eOp opEq (bV (eVar 5)) (bV (eOp opAdd (bV (eVar 4)) (bV (eC (.int 1)))))))) (WP.tAnd (WP.tB (eOp opEq (bV (eVar 1)) (bV (eC (.str "ring"))))) (WP.tB (eOp opIn (bV (eOp opSub (bV (eVar 5)) (bV (eVar 4)))) (bV (eTup (aCons (bV (eC (.int 1))) (aCons (bV (eOp opSub (bV (eVar 3)) (bV (eC (.int 1))))) (aNil)))))))))) (S0 r w acc (sl i) (sl j) x) =
        .ok (decide (i < j ∧ (w = .any ∨ (w = .near ∧ j = i + 1))), S0 r w acc (sl i) (sl j) x) := by
      by_cases h1 : i < j
      · have h1' : (i : Int) < (j : Int) := by omega
        cases w with
        | any => simp [eC, eVar, eFrz, bV, bS, aNil, aCons, aStar, eOp, eUn, eB, eM, eCall, eIf, eAnd, eOr, eNot, eChain, eTup, eLst, deref, derefs, valsOf, tB, tAnd, tOr, tNot, tTrue, iSeq, gName, gAll, gTup, ownL, ownT, gAt, eAppend, ePopK, ePopL, eSeqM, sNext, sSeq, sDrop, sRet, sRetN, sIf, sSet, sAsg, sNew, sNever, sFor, sRetOwn, entry, entryM, outOf, wipeE, backE, aPar, putE, sPar, eSl, pNo, pInt, eIsa, isaOf, one, two, way_any, way_near, way_move, way_front, way_ring, way_ff, way_turns, S0, sl, h1, h1']
        | near =>
          by_cases h2 : j = i + 1
          · subst h2
            simp [eC, eVar, eFrz, bV, bS, aNil, aCons, aStar, eOp, eUn, eB, eM, eCall, eIf, eAnd, eOr, eNot, eChain, eTup, eLst, deref, derefs, valsOf, tB, tAnd, tOr, tNot, tTrue, iSeq, gName, gAll, gTup, ownL, ownT, gAt, eAppend, ePopK, ePopL, eSeqM, sNext, sSeq, sDrop, sRet, sRetN, sIf, sSet, sAsg, sNew, sNever, sFor, sRetOwn, entry, entryM, outOf, wipeE, backE, aPar, putE, sPar, eSl, pNo, pInt, eIsa, isaOf, one, two, way_any, way_near, way_move, way_front, way_ring, way_ff, way_turns, S0, sl]
            omega
          · have h2' : ¬ (j : Int) = (i : Int) + 1 := by omega
            simp [eC, eVar, eFrz, bV, bS, aNil, aCons, aStar, eOp, eUn, eB, eM, eCall, eIf, eAnd, eOr, eNot, eChain, eTup, eLst, deref, derefs, valsOf, tB, tAnd, tOr, tNot, tTrue, iSeq, gName, gAll, gTup, ownL, ownT, gAt, eAppend, ePopK, ePopL, eSeqM, sNext, sSeq, sDrop, sRet, sRetN, sIf, sSet, sAsg, sNew, sNever, sFor, sRetOwn, entry, entryM, outOf, wipeE, backE, aPar, putE, sPar, eSl, pNo, pInt, eIsa, isaOf, one, two, way_any, way_near, way_move, way_front, way_ring, way_ff, way_turns, S0, sl, h1, h1', h2, h2']
        | move => simp [eC, eVar, eFrz, bV, bS, aNil, aCons, aStar, eOp, eUn, eB, eM, eCall, eIf, eAnd, eOr, eNot, eChain, eTup, eLst, deref, derefs, valsOf, tB, tAnd, tOr, tNot, tTrue, iSeq, gName, gAll, gTup, ownL, ownT, gAt, eAppend, ePopK, ePopL, eSeqM, sNext, sSeq, sDrop, sRet, sRetN, sIf, sSet, sAsg, sNew, sNever, sFor, sRetOwn, entry, entryM, outOf, wipeE, backE, aPar, putE, sPar, eSl, pNo, pInt, eIsa, isaOf, one, two, way_any, way_near, way_move, way_front, way_ring, way_ff, way_turns, S0, sl, h1, h1']
        | front => simp [eC, eVar, eFrz, bV, bS, aNil, aCons, aStar, eOp, eUn, eB, eM, eCall, eIf, eAnd, eOr, eNot, eChain, eTup, eLst, deref, derefs, valsOf, tB, tAnd, tOr, tNot, tTrue, iSeq, gName, gAll, gTup, ownL, ownT, gAt, eAppend, ePopK, ePopL, eSeqM, sNext, sSeq, sDrop, sRet, sRetN, sIf, sSet, sAsg, sNew, sNever, sFor, sRetOwn, entry, entryM, outOf, wipeE, backE, aPar, putE, sPar, eSl, pNo, pInt, eIsa, isaOf, one, two, way_any, way_near, way_move, way_front, way_ring, way_ff, way_turns, S0, sl, h1, h1']
      · have h1' : ¬ (i : Int) < (j : Int) := by omega
        simp [eC, eVar, eFrz, bV, bS, aNil, aCons, aStar, eOp, eUn, eB, eM, eCall, eIf, eAnd, eOr, eNot, eChain, eTup, eLst, deref, derefs, valsOf, tB, tAnd, tOr, tNot, tTrue, iSeq, gName, gAll, gTup, ownL, ownT, gAt, eAppend, ePopK, ePopL, eSeqM, sNext, sSeq, sDrop, sRet, sRetN, sIf, sSet, sAsg, sNew, sNever, sFor, sRetOwn, entry, entryM, outOf, wipeE, backE, aPar, putE, sPar, eSl, pNo, pInt, eIsa, isaOf, one, two, way_any, way_near, way_move, way_front, way_ring, way_ff, way_turns, S0, sl, h1, h1']
    rw [t2, ok_bind]
    dsimp only
    by_cases c2 : i < j ∧ (w = .any ∨ (w = .near ∧ j = i + 1))
    · rw [if_pos (decide_eq_true c2), if_pos c2, s_append (e_swap hr hi hj) ha]
    · rw [if_neg (by rw [decide_eq_false c2]; decide), if_neg c2, List.append_nil]; rfl
theorem stepAt_len (w : Way) (r : Row) (i j : Nat) : (stepAt w r i j).length ≤ 1 := by
  unfold stepAt
  split
  · simp [eC, eVar, eFrz, bV, bS, aNil, aCons, aStar, eOp, eUn, eB, eM, eCall, eIf, eAnd, eOr, eNot, eChain, eTup, eLst, deref, derefs, valsOf, tB, tAnd, tOr, tNot, tTrue, iSeq, gName, gAll, gTup, ownL, ownT, gAt, eAppend, ePopK, ePopL, eSeqM, sNext, sSeq, sDrop, sRet, sRetN, sIf, sSet, sAsg, sNew, sNever, sFor, sRetOwn, entry, entryM, outOf, wipeE, backE, aPar, putE, sPar, eSl, pNo, pInt, eIsa, isaOf, one, two, way_any, way_near, way_move, way_front, way_ring, way_ff, way_turns]
  · split <;> simp [eC, eVar, eFrz, bV, bS, aNil, aCons, aStar, eOp, eUn, eB, eM, eCall, eIf, eAnd, eOr, eNot, eChain, eTup, eLst, deref, derefs, valsOf, tB, tAnd, tOr, tNot, tTrue, iSeq, gName, gAll, gTup, ownL, ownT, gAt, eAppend, ePopK, ePopL, eSeqM, sNext, sSeq, sDrop, sRet, sRetN, sIf, sSet, sAsg, sNew, sNever, sFor, sRetOwn, entry, entryM, outOf, wipeE, backE, aPar, putE, sPar, eSl, pNo, pInt, eIsa, isaOf, one, two, way_any, way_near, way_move, way_front, way_ring, way_ff, way_turns]
theorem range_mem {n : Nat} {d rr : List Nat} {y : Nat} (h : d ++ y :: rr = List.range n) : y < n ∧ d.length < n := by
  have hy : y ∈ List.range n := by rw [← h]; exact List.mem_append_right _ List.mem_cons_self
  have hl := congrArg List.length h
  rw [List.length_append, List.length_cons, List.length_range] at hl
  exact ⟨List.mem_range.mp hy, by omega⟩
theorem steps_inner (hr : r.length ≤ 1000) (hi : i < r.length) (ha : acc.length + r.length < 16777216) : ∃ e', sFor [5] (iRange1 (eVar 3)) (WP.gName 5) stepsB (S0 r w acc (sl i) none x) = .ok (.nx, e') ∧ ∃ x', e' = S0 r w (acc ++ (List.range r.length).flatMap (stepAt w r i)) (sl i) none x' := by
  refine sFor_inv (fun k : Nat => PyData.int (k : Nat)) (fun ds e => ∃ x', e = S0 r w (acc ++ ds.flatMap (stepAt w r i)) (sl i) none x') (ys := List.range r.length) (range1_of (n := r.length) rfl (by omega)) ⟨x, by simp [eC, eVar, eFrz, bV, bS, aNil, aCons, aStar, eOp, eUn, eB, eM, eCall, eIf, eAnd, eOr, eNot, eChain, eTup, eLst, deref, derefs, valsOf, tB, tAnd, tOr, tNot, tTrue, iSeq, gName, gAll, gTup, ownL, ownT, gAt, eAppend, ePopK, ePopL, eSeqM, sNext, sSeq, sDrop, sRet, sRetN, sIf, sSet, sAsg, sNew, sNever, sFor, sRetOwn, entry, entryM, outOf, wipeE, backE, aPar, putE, sPar, eSl, pNo, pInt, eIsa, isaOf, one, two, way_any, way_near, way_move, way_front, way_ring, way_ff, way_turns]⟩ ?_
  rintro ds y rr e hd ⟨x', rfl⟩
  obtain ⟨hy, hdl⟩ := range_mem hd
  have fl := flat_le (stepAt w r i) 1 ds fun z _ => stepAt_len w r i z
  obtain ⟨x2, hb⟩ := steps_body (x := x') (acc := acc ++ ds.flatMap (stepAt w r i)) (w := w) hr hi hy (by rw [List.length_append]; omega)
  exact ⟨_, _, rfl, hb, x2, by simp [eC, eVar, eFrz, bV, bS, aNil, aCons, aStar, eOp, eUn, eB, eM, eCall, eIf, eAnd, eOr, eNot, eChain, eTup, eLst, deref, derefs, valsOf, tB, tAnd, tOr, tNot, tTrue, iSeq, gName, gAll, gTup, ownL, ownT, gAt, eAppend, ePopK, ePopL, eSeqM, sNext, sSeq, sDrop, sRet, sRetN, sIf, sSet, sAsg, sNew, sNever, sFor, sRetOwn, entry, entryM, outOf, wipeE, backE, aPar, putE, sPar, eSl, pNo, pInt, eIsa, isaOf, one, two, way_any, way_near, way_move, way_front, way_ring, way_ff, way_turns, S0, List.append_assoc]⟩
theorem steps_outer (hr : r.length ≤ 1000) : ∃ e', sFor [4] (iRange1 (eVar 3)) (WP.gName 4) (sFor [5] (iRange1 (eVar 3)) (WP.gName 5) stepsB) (S0 r w [] none none none) = .ok (.nx, e') ∧ ∃ x', e' = S0 r w (lawSteps w r) none none x' := by
  refine sFor_inv (fun k : Nat => PyData.int (k : Nat)) (fun ds e => ∃ x', e = S0 r w (ds.flatMap fun i => (List.range r.length).flatMap (stepAt w r i)) none none x') (ys := List.range r.length) (range1_of (n := r.length) rfl (by omega)) ⟨none, by simp [eC, eVar, eFrz, bV, bS, aNil, aCons, aStar, eOp, eUn, eB, eM, eCall, eIf, eAnd, eOr, eNot, eChain, eTup, eLst, deref, derefs, valsOf, tB, tAnd, tOr, tNot, tTrue, iSeq, gName, gAll, gTup, ownL, ownT, gAt, eAppend, ePopK, ePopL, eSeqM, sNext, sSeq, sDrop, sRet, sRetN, sIf, sSet, sAsg, sNew, sNever, sFor, sRetOwn, entry, entryM, outOf, wipeE, backE, aPar, putE, sPar, eSl, pNo, pInt, eIsa, isaOf, one, two, way_any, way_near, way_move, way_front, way_ring, way_ff, way_turns]⟩ ?_
  rintro ds y rr e hd ⟨x', rfl⟩
  obtain ⟨hy, hdl⟩ := range_mem hd
  have fl := flat_le (fun i => (List.range r.length).flatMap (stepAt w r i)) r.length ds fun z _ => by
    have := flat_le (stepAt w r z) 1 (List.range r.length) fun q _ => stepAt_len w r z q
    rwa [List.length_range, Nat.mul_one] at this
  have mm : ds.length * r.length ≤ 1000 * 1000 := Nat.mul_le_mul (by omega) hr
  obtain ⟨e2, hb, x2, rfl⟩ := steps_inner (x := x') (acc := ds.flatMap fun i => (List.range r.length).flatMap (stepAt w r i)) (w := w) hr hy (by omega)
  exact ⟨_, _, rfl, hb, x2, by simp [eC, eVar, eFrz, bV, bS, aNil, aCons, aStar, eOp, eUn, eB, eM, eCall, eIf, eAnd, eOr, eNot, eChain, eTup, eLst, deref, derefs, valsOf, tB, tAnd, tOr, tNot, tTrue, iSeq, gName, gAll, gTup, ownL, ownT, gAt, eAppend, ePopK, ePopL, eSeqM, sNext, sSeq, sDrop, sRet, sRetN, sIf, sSet, sAsg, sNew, sNever, sFor, sRetOwn, entry, entryM, outOf, wipeE, backE, aPar, putE, sPar, eSl, pNo, pInt, eIsa, isaOf, one, two, way_any, way_near, way_move, way_front, way_ring, way_ff, way_turns, S0]⟩
theorem steps_way (hr : r.length ≤ 1000) : g__law_steps [rowD r, w.d] = .ok (rowsD (lawSteps w r)) := by
  obtain ⟨e', h1, x', rfl⟩ := steps_outer (w := w) hr
  have hp : sPar [2, 3] [(.m, eLst (aNil)), (.p, eB (one bLen) (aCons (bV (eVar 0)) (aNil)))] [some ⟨.p, rowD r⟩, some ⟨.p, w.d⟩, none, none, none, none, none] = .ok (.nx, S0 r w [] none none none) := by
    simp [eC, eVar, eFrz, bV, bS, aNil, aCons, aStar, eOp, eUn, eB, eM, eCall, eIf, eAnd, eOr, eNot, eChain, eTup, eLst, deref, derefs, valsOf, tB, tAnd, tOr, tNot, tTrue, iSeq, gName, gAll, gTup, ownL, ownT, gAt, eAppend, ePopK, ePopL, eSeqM, sNext, sSeq, sDrop, sRet, sRetN, sIf, sSet, sAsg, sNew, sNever, sFor, sRetOwn, entry, entryM, outOf, wipeE, backE, aPar, putE, sPar, eSl, pNo, pInt, eIsa, isaOf, one, two, way_any, way_near, way_move, way_front, way_ring, way_ff, way_turns, S0, rowsD]
  simp only [g__law_steps, defP, b__law_steps]
  rw [if_pos ⟨rfl, by omega⟩]
  show outOf (sSeq _ (sSeq (sFor [4] (iRange1 (eVar 3)) (WP.gName 4) (sFor [5] (iRange1 (eVar 3)) (WP.gName 5) stepsB)) _) [some ⟨.p, rowD r⟩, some ⟨.p, w.d⟩, none, none, none, none, none]) = _
  rw [seq_nx hp, seq_nx h1]
  simp [eC, eVar, eFrz, bV, bS, aNil, aCons, aStar, eOp, eUn, eB, eM, eCall, eIf, eAnd, eOr, eNot, eChain, eTup, eLst, deref, derefs, valsOf, tB, tAnd, tOr, tNot, tTrue, iSeq, gName, gAll, gTup, ownL, ownT, gAt, eAppend, ePopK, ePopL, eSeqM, sNext, sSeq, sDrop, sRet, sRetN, sIf, sSet, sAsg, sNew, sNever, sFor, sRetOwn, entry, entryM, outOf, wipeE, backE, aPar, putE, sPar, eSl, pNo, pInt, eIsa, isaOf, one, two, way_any, way_near, way_move, way_front, way_ring, way_ff, way_turns, S0]
end
end WP
end
section
set_option Elab.async false
set_option linter.all false
set_option maxRecDepth 100000
set_option autoImplicit false
/-! PL10: the law's distances. -/
namespace WP
open PySem PySem.Spec
def fstK (K : Tab) : List Row := K.map (·.1)
def O0 (r : Row) (w : Way) (K : Tab) (fr : List Row) (l4 : Option Sl) : Env := [some ⟨.p, rowD r⟩, some ⟨.p, w.d⟩, some ⟨.dt, .dict (kvD K)⟩, some ⟨.p, rowsD fr⟩, l4, none, none]
def O1 (r : Row) (w : Way) (K : Tab) (fr lt : List Row) : Env := [some ⟨.p, rowD r⟩, some ⟨.p, w.d⟩, some ⟨.dt, .dict (kvD K)⟩, some ⟨.p, rowsD fr⟩, some ⟨.m, rowsD lt⟩, none, none]
def O2 (r : Row) (w : Way) (K : Tab) (fr lt : List Row) (u : Row) (x : Option Sl) : Env := [some ⟨.p, rowD r⟩, some ⟨.p, w.d⟩, some ⟨.dt, .dict (kvD K)⟩, some ⟨.p, rowsD fr⟩, some ⟨.m, rowsD lt⟩, some ⟨.p, rowD u⟩, x]
theorem ne_rows (fr : List Row) : opNe (rowsD fr) (.list []) = some (.bool (!decide (fr = []))) := by
  unfold opNe
  rw [if_pos ⟨okD_rows fr, rfl⟩]
  cases fr <;> simp [eC, eVar, eFrz, bV, bS, aNil, aCons, aStar, eOp, eUn, eB, eM, eCall, eIf, eAnd, eOr, eNot, eChain, eTup, eLst, deref, derefs, valsOf, tB, tAnd, tOr, tNot, tTrue, iSeq, gName, gAll, gTup, ownL, ownT, gAt, eAppend, ePopK, ePopL, eSeqM, sNext, sSeq, sDrop, sRet, sRetN, sIf, sSet, sAsg, sNew, sNever, sFor, sRetOwn, entry, entryM, outOf, wipeE, backE, aPar, putE, sPar, eSl, pNo, pInt, eIsa, isaOf, one, two, way_any, way_near, way_move, way_front, way_ring, way_ff, way_turns, rowsD, PyData.eqv, PyData.eqvAll]
structure GroundL (r : Row) (w : Way) (U : List Row) : Prop where
  here : r ∈ U
  cls : ∀ u ∈ U, ∀ v ∈ lawSteps w u, v ∈ U
  len : ∀ u ∈ U, u.length = r.length
  few : U.length ≤ 1000000
  low : r.length ≤ 1000
def offB : SF := sIf (WP.tB (eOp opHasNot (bV (eVar 6)) (bS 2))) (sSeq (sAsg (gKey 2 (eVar 6)) (eOp opAdd (bV (eOp opAt (bS 2) (bV (eVar 5)))) (bV (eC (.int 1))))) (sDrop (eAppend 4 (eVar 6)))) (sNext)
theorem off_inner {r u : Row} {w : Way} {U : List Row} {K0 T K : Tab} {fr : List Row} {n : Nat} {d : Int} (G : GroundL r w U) (f : FB r (lawSteps w) U K n) (hu : K[n]? = some (u, d)) (hK : K = K0 ++ T) :
    ∃ e', sFor [6] (iSeq (eCall g__law_steps (aCons (bV (eVar 5)) (aCons (bV (eVar 1)) (aNil))))) (WP.gName 6) offB (O2 r w K fr (fstK T) u none) = .ok (.nx, e') ∧ ∃ K' T', e' = O2 r w K' fr (fstK T') u none ∧ K' = K0 ++ T' ∧ FB r (lawSteps w) U K' (n + 1) := by
  have hU := f.us _ (List.mem_of_getElem? hu)
  have lu := G.len u hU
  have g2 := G.low
  have g3 := G.few
  obtain ⟨e', h1, K', T', h2, h4, h3⟩ := sFor_inv (fg := [6]) (it := iSeq (eCall g__law_steps (aCons (bV (eVar 5)) (aCons (bV (eVar 1)) (aNil))))) (g := WP.gName 6) (b := offB) (env := O2 r w K fr (fstK T) u none) (env1 := O2 r w K fr (fstK T) u none)
    rowD (fun ds e => ∃ K' T', e = O2 r w K' fr (fstK T') u none ∧ K' = K0 ++ T' ∧ FI r (lawSteps w) U K n u d ds K') (ys := lawSteps w u) (by simp [eC, eVar, eFrz, bV, bS, aNil, aCons, aStar, eOp, eUn, eB, eM, eCall, eIf, eAnd, eOr, eNot, eChain, eTup, eLst, deref, derefs, valsOf, tB, tAnd, tOr, tNot, tTrue, iSeq, gName, gAll, gTup, ownL, ownT, gAt, eAppend, ePopK, ePopL, eSeqM, sNext, sSeq, sDrop, sRet, sRetN, sIf, sSet, sAsg, sNew, sNever, sFor, sRetOwn, entry, entryM, outOf, wipeE, backE, aPar, putE, sPar, eSl, pNo, pInt, eIsa, isaOf, one, two, way_any, way_near, way_move, way_front, way_ring, way_ff, way_turns, O2, steps_way (r := u) (w := w) (by omega), rowsD]) ⟨K, T, rfl, hK, f.begin⟩ (by
      rintro ds v rest e hd ⟨K', T', rfl, hKT, I⟩
      have hv : v ∈ lawSteps w u := by rw [← hd]; exact List.mem_append_right _ List.mem_cons_self
      have st := I.step hv (G.cls u hU _ hv)
      have nn : K' ≠ [] := by
        obtain ⟨T, e, _⟩ := I.ext
        rw [e]; exact fun z => ne_nil f (List.append_eq_nil_iff.mp z).1
      have at_u := at_kv nn (I.look hu)
      have sz := I.size
      have z1 : K'.length < 16777216 := by omega
      have z2 : T'.length < 16777216 := by
        have := congrArg List.length hKT
        rw [List.length_append] at this
        omega
      unfold ins1 at st
      cases hl : K'.lookup v with
      | some x =>
        rw [hl, if_pos (by rfl)] at st
        refine ⟨_, O2 r w K' fr (fstK T') u (some ⟨.p, rowD v⟩), rfl, ?_, K', T', ?_, hKT, st⟩
        · simp [eC, eVar, eFrz, bV, bS, aNil, aCons, aStar, eOp, eUn, eB, eM, eCall, eIf, eAnd, eOr, eNot, eChain, eTup, eLst, deref, derefs, valsOf, tB, tAnd, tOr, tNot, tTrue, iSeq, gName, gAll, gTup, ownL, ownT, gAt, eAppend, ePopK, ePopL, eSeqM, sNext, sSeq, sDrop, sRet, sRetN, sIf, sSet, sAsg, sNew, sNever, sFor, sRetOwn, entry, entryM, outOf, wipeE, backE, aPar, putE, sPar, eSl, pNo, pInt, eIsa, isaOf, one, two, way_any, way_near, way_move, way_front, way_ring, way_ff, way_turns, O2, offB, hasNot_kv nn, hl]
        · simp [eC, eVar, eFrz, bV, bS, aNil, aCons, aStar, eOp, eUn, eB, eM, eCall, eIf, eAnd, eOr, eNot, eChain, eTup, eLst, deref, derefs, valsOf, tB, tAnd, tOr, tNot, tTrue, iSeq, gName, gAll, gTup, ownL, ownT, gAt, eAppend, ePopK, ePopL, eSeqM, sNext, sSeq, sDrop, sRet, sRetN, sIf, sSet, sAsg, sNew, sNever, sFor, sRetOwn, entry, entryM, outOf, wipeE, backE, aPar, putE, sPar, eSl, pNo, pInt, eIsa, isaOf, one, two, way_any, way_near, way_move, way_front, way_ring, way_ff, way_turns, O2]
      | none =>
        rw [hl, if_neg (by simp [eC, eVar, eFrz, bV, bS, aNil, aCons, aStar, eOp, eUn, eB, eM, eCall, eIf, eAnd, eOr, eNot, eChain, eTup, eLst, deref, derefs, valsOf, tB, tAnd, tOr, tNot, tTrue, iSeq, gName, gAll, gTup, ownL, ownT, gAt, eAppend, ePopK, ePopL, eSeqM, sNext, sSeq, sDrop, sRet, sRetN, sIf, sSet, sAsg, sNew, sNever, sFor, sRetOwn, entry, entryM, outOf, wipeE, backE, aPar, putE, sPar, eSl, pNo, pInt, eIsa, isaOf, one, two, way_any, way_near, way_move, way_front, way_ring, way_ff, way_turns])] at st
        refine ⟨_, O2 r w (K' ++ [(v, d + 1)]) fr (fstK (T' ++ [(v, d + 1)])) u (some ⟨.p, rowD v⟩), rfl, ?_, K' ++ [(v, d + 1)], T' ++ [(v, d + 1)], ?_, by rw [hKT, List.append_assoc], st⟩
        · simp [eC, eVar, eFrz, bV, bS, aNil, aCons, aStar, eOp, eUn, eB, eM, eCall, eIf, eAnd, eOr, eNot, eChain, eTup, eLst, deref, derefs, valsOf, tB, tAnd, tOr, tNot, tTrue, iSeq, gName, gAll, gTup, ownL, ownT, gAt, eAppend, ePopK, ePopL, eSeqM, sNext, sSeq, sDrop, sRet, sRetN, sIf, sSet, sAsg, sNew, sNever, sFor, sRetOwn, entry, entryM, outOf, wipeE, backE, aPar, putE, sPar, eSl, pNo, pInt, eIsa, isaOf, one, two, way_any, way_near, way_move, way_front, way_ring, way_ff, way_turns, O2, offB, hasNot_kv nn, hl, gKey, at_u, put_kv (d + 1) hl, z1, z2, rowsD, fstK]
        · simp [eC, eVar, eFrz, bV, bS, aNil, aCons, aStar, eOp, eUn, eB, eM, eCall, eIf, eAnd, eOr, eNot, eChain, eTup, eLst, deref, derefs, valsOf, tB, tAnd, tOr, tNot, tTrue, iSeq, gName, gAll, gTup, ownL, ownT, gAt, eAppend, ePopK, ePopL, eSeqM, sNext, sSeq, sDrop, sRet, sRetN, sIf, sSet, sAsg, sNew, sNever, sFor, sRetOwn, entry, entryM, outOf, wipeE, backE, aPar, putE, sPar, eSl, pNo, pInt, eIsa, isaOf, one, two, way_any, way_near, way_move, way_front, way_ring, way_ff, way_turns, O2])
  exact ⟨e', h1, K', T', h2, h4, f.next hu h3⟩
theorem off_layer {r : Row} {w : Way} {U : List Row} {K : Tab} {n : Nat} (G : GroundL r w U) (f : FB r (lawSteps w) U K n) :
    ∃ e', sFor [5] (iSeq (eVar 3)) (WP.gName 5) (sFor [6] (iSeq (eCall g__law_steps (aCons (bV (eVar 5)) (aCons (bV (eVar 1)) (aNil))))) (WP.gName 6) offB) (O1 r w K ((fstK K).drop n) []) = .ok (.nx, e') ∧ ∃ T, e' = O1 r w (K ++ T) ((fstK K).drop n) (fstK T) ∧ FB r (lawSteps w) U (K ++ T) K.length := by
  have hlen : ((fstK K).drop n).length = K.length - n := by rw [List.length_drop, fstK, List.length_map]
  obtain ⟨e', h1, T, h2, h3⟩ := sFor_inv (fg := [5]) (it := iSeq (eVar 3)) (g := WP.gName 5) (b := sFor [6] (iSeq (eCall g__law_steps (aCons (bV (eVar 5)) (aCons (bV (eVar 1)) (aNil))))) (WP.gName 6) offB) (env := O1 r w K ((fstK K).drop n) []) (env1 := O1 r w K ((fstK K).drop n) [])
    rowD (fun ds e => ∃ T, e = O1 r w (K ++ T) ((fstK K).drop n) (fstK T) ∧ FB r (lawSteps w) U (K ++ T) (n + ds.length)) (ys := (fstK K).drop n) (by simp [eC, eVar, eFrz, bV, bS, aNil, aCons, aStar, eOp, eUn, eB, eM, eCall, eIf, eAnd, eOr, eNot, eChain, eTup, eLst, deref, derefs, valsOf, tB, tAnd, tOr, tNot, tTrue, iSeq, gName, gAll, gTup, ownL, ownT, gAt, eAppend, ePopK, ePopL, eSeqM, sNext, sSeq, sDrop, sRet, sRetN, sIf, sSet, sAsg, sNew, sNever, sFor, sRetOwn, entry, entryM, outOf, wipeE, backE, aPar, putE, sPar, eSl, pNo, pInt, eIsa, isaOf, one, two, way_any, way_near, way_move, way_front, way_ring, way_ff, way_turns, O1, rowsD]) ⟨[], by simp [eC, eVar, eFrz, bV, bS, aNil, aCons, aStar, eOp, eUn, eB, eM, eCall, eIf, eAnd, eOr, eNot, eChain, eTup, eLst, deref, derefs, valsOf, tB, tAnd, tOr, tNot, tTrue, iSeq, gName, gAll, gTup, ownL, ownT, gAt, eAppend, ePopK, ePopL, eSeqM, sNext, sSeq, sDrop, sRet, sRetN, sIf, sSet, sAsg, sNew, sNever, sFor, sRetOwn, entry, entryM, outOf, wipeE, backE, aPar, putE, sPar, eSl, pNo, pInt, eIsa, isaOf, one, two, way_any, way_near, way_move, way_front, way_ring, way_ff, way_turns, fstK], by simpa [eC, eVar, eFrz, bV, bS, aNil, aCons, aStar, eOp, eUn, eB, eM, eCall, eIf, eAnd, eOr, eNot, eChain, eTup, eLst, deref, derefs, valsOf, tB, tAnd, tOr, tNot, tTrue, iSeq, gName, gAll, gTup, ownL, ownT, gAt, eAppend, ePopK, ePopL, eSeqM, sNext, sSeq, sDrop, sRet, sRetN, sIf, sSet, sAsg, sNew, sNever, sFor, sRetOwn, entry, entryM, outOf, wipeE, backE, aPar, putE, sPar, eSl, pNo, pInt, eIsa, isaOf, one, two, way_any, way_near, way_move, way_front, way_ring, way_ff, way_turns] using f⟩ (by
      rintro ds u rest e hd ⟨T, rfl, f1⟩
      have hds : ds.length < K.length - n := by
        rw [← hlen, ← hd, List.length_append, List.length_cons]; omega
      have hg : ((fstK K).drop n)[ds.length]? = some u := by rw [← hd]; simp [eC, eVar, eFrz, bV, bS, aNil, aCons, aStar, eOp, eUn, eB, eM, eCall, eIf, eAnd, eOr, eNot, eChain, eTup, eLst, deref, derefs, valsOf, tB, tAnd, tOr, tNot, tTrue, iSeq, gName, gAll, gTup, ownL, ownT, gAt, eAppend, ePopK, ePopL, eSeqM, sNext, sSeq, sDrop, sRet, sRetN, sIf, sSet, sAsg, sNew, sNever, sFor, sRetOwn, entry, entryM, outOf, wipeE, backE, aPar, putE, sPar, eSl, pNo, pInt, eIsa, isaOf, one, two, way_any, way_near, way_move, way_front, way_ring, way_ff, way_turns]
      rw [List.getElem?_drop, fstK, List.getElem?_map] at hg
      obtain ⟨p, hp, hpu⟩ := Option.map_eq_some_iff.mp hg
      have hu : (K ++ T)[n + ds.length]? = some (u, p.2) := by
        rw [List.getElem?_append_left (by omega), hp, ← hpu]
      obtain ⟨e', h1, K', T', rfl, hKT, f2⟩ := off_inner (fr := (fstK K).drop n) G f1 hu rfl
      refine ⟨_, _, rfl, h1, T', ?_, ?_⟩
      · rw [hKT]; simp [eC, eVar, eFrz, bV, bS, aNil, aCons, aStar, eOp, eUn, eB, eM, eCall, eIf, eAnd, eOr, eNot, eChain, eTup, eLst, deref, derefs, valsOf, tB, tAnd, tOr, tNot, tTrue, iSeq, gName, gAll, gTup, ownL, ownT, gAt, eAppend, ePopK, ePopL, eSeqM, sNext, sSeq, sDrop, sRet, sRetN, sIf, sSet, sAsg, sNew, sNever, sFor, sRetOwn, entry, entryM, outOf, wipeE, backE, aPar, putE, sPar, eSl, pNo, pInt, eIsa, isaOf, one, two, way_any, way_near, way_move, way_front, way_ring, way_ff, way_turns, O1, O2]
      · rw [hKT] at f2
        rw [List.length_append, List.length_singleton]
        exact f2)
  refine ⟨e', h1, T, h2, ?_⟩
  rw [hlen] at h3
  have := f.le
  rwa [show n + (K.length - n) = K.length by omega] at h3
theorem off_way {r : Row} {w : Way} {U : List Row} (G : GroundL r w U) : ∃ K, g__law_off [rowD r, w.d] = .ok (.dict (kvD K)) ∧ Lab r (lawSteps w) K ∧ (∀ p ∈ K, p.1 ∈ U) ∧ K ≠ [] := by
  have g3 := G.few
  have hb : ∃ e', sWhile [4] fuel (WP.tB (eOp opNe (bV (eVar 3)) (bV (eLst (aNil))))) (sSeq (sNew 4 .m (eLst (aNil))) (sSeq (sFor [5] (iSeq (eVar 3)) (WP.gName 5) (sFor [6] (iSeq (eCall g__law_steps (aCons (bV (eVar 5)) (aCons (bV (eVar 1)) (aNil))))) (WP.gName 6) offB)) (sSet 3 (eFrz 4)))) (O0 r w [(r, 0)] [r] none) = .ok (.nx, e') ∧
      ∃ K, e' = O0 r w K [] none ∧ FB r (lawSteps w) U K K.length := by
    refine sWhile_inv (fun k e => ∃ K n, e = O0 r w K ((fstK K).drop n) none ∧ FB r (lawSteps w) U K n ∧ k = U.length - n) (fun e => ∃ K, e = O0 r w K [] none ∧ FB r (lawSteps w) U K K.length) U.length (by omega) ⟨[(r, 0)], 0, rfl, FB.start G.here, rfl⟩ ?_
    rintro k e ⟨K, n, rfl, f, rfl⟩
    have hlen : ((fstK K).drop n).length = K.length - n := by rw [List.length_drop, fstK, List.length_map]
    refine ⟨!decide ((fstK K).drop n = []), O0 r w K ((fstK K).drop n) none, by simp [eC, eVar, eFrz, bV, bS, aNil, aCons, aStar, eOp, eUn, eB, eM, eCall, eIf, eAnd, eOr, eNot, eChain, eTup, eLst, deref, derefs, valsOf, tB, tAnd, tOr, tNot, tTrue, iSeq, gName, gAll, gTup, ownL, ownT, gAt, eAppend, ePopK, ePopL, eSeqM, sNext, sSeq, sDrop, sRet, sRetN, sIf, sSet, sAsg, sNew, sNever, sFor, sRetOwn, entry, entryM, outOf, wipeE, backE, aPar, putE, sPar, eSl, pNo, pInt, eIsa, isaOf, one, two, way_any, way_near, way_move, way_front, way_ring, way_ff, way_turns, O0, ne_rows], fun hc => ?_, fun hc => ?_⟩
    · have hc : (fstK K).drop n = [] := by simpa [eC, eVar, eFrz, bV, bS, aNil, aCons, aStar, eOp, eUn, eB, eM, eCall, eIf, eAnd, eOr, eNot, eChain, eTup, eLst, deref, derefs, valsOf, tB, tAnd, tOr, tNot, tTrue, iSeq, gName, gAll, gTup, ownL, ownT, gAt, eAppend, ePopK, ePopL, eSeqM, sNext, sSeq, sDrop, sRet, sRetN, sIf, sSet, sAsg, sNew, sNever, sFor, sRetOwn, entry, entryM, outOf, wipeE, backE, aPar, putE, sPar, eSl, pNo, pInt, eIsa, isaOf, one, two, way_any, way_near, way_move, way_front, way_ring, way_ff, way_turns] using hc
      rw [hc, List.length_nil] at hlen
      have := f.le
      have e : n = K.length := by omega
      rw [hc]
      subst e
      exact ⟨K, rfl, f⟩
    · have hc : (fstK K).drop n ≠ [] := by simpa [eC, eVar, eFrz, bV, bS, aNil, aCons, aStar, eOp, eUn, eB, eM, eCall, eIf, eAnd, eOr, eNot, eChain, eTup, eLst, deref, derefs, valsOf, tB, tAnd, tOr, tNot, tTrue, iSeq, gName, gAll, gTup, ownL, ownT, gAt, eAppend, ePopK, ePopL, eSeqM, sNext, sSeq, sDrop, sRet, sRetN, sIf, sSet, sAsg, sNew, sNever, sFor, sRetOwn, entry, entryM, outOf, wipeE, backE, aPar, putE, sPar, eSl, pNo, pInt, eIsa, isaOf, one, two, way_any, way_near, way_move, way_front, way_ring, way_ff, way_turns] using hc
      have pos := List.length_pos_iff.mpr hc
      obtain ⟨e', h1, T, rfl, f'⟩ := off_layer G f
      have sz := f'.size
      rw [List.length_append] at sz
      refine ⟨O0 r w (K ++ T) (fstK T) (some ⟨.p, rowsD (fstK T)⟩), U.length - K.length, ?_, by omega, K ++ T, K.length, ?_, f', rfl⟩
      · have hp : sNew 4 .m (eLst aNil) (O0 r w K ((fstK K).drop n) none) = .ok (.nx, O1 r w K ((fstK K).drop n) []) := by simp [eC, eVar, eFrz, bV, bS, aNil, aCons, aStar, eOp, eUn, eB, eM, eCall, eIf, eAnd, eOr, eNot, eChain, eTup, eLst, deref, derefs, valsOf, tB, tAnd, tOr, tNot, tTrue, iSeq, gName, gAll, gTup, ownL, ownT, gAt, eAppend, ePopK, ePopL, eSeqM, sNext, sSeq, sDrop, sRet, sRetN, sIf, sSet, sAsg, sNew, sNever, sFor, sRetOwn, entry, entryM, outOf, wipeE, backE, aPar, putE, sPar, eSl, pNo, pInt, eIsa, isaOf, one, two, way_any, way_near, way_move, way_front, way_ring, way_ff, way_turns, O0, O1, rowsD]
        rw [seq_nx hp, seq_nx h1]
        simp [eC, eVar, eFrz, bV, bS, aNil, aCons, aStar, eOp, eUn, eB, eM, eCall, eIf, eAnd, eOr, eNot, eChain, eTup, eLst, deref, derefs, valsOf, tB, tAnd, tOr, tNot, tTrue, iSeq, gName, gAll, gTup, ownL, ownT, gAt, eAppend, ePopK, ePopL, eSeqM, sNext, sSeq, sDrop, sRet, sRetN, sIf, sSet, sAsg, sNew, sNever, sFor, sRetOwn, entry, entryM, outOf, wipeE, backE, aPar, putE, sPar, eSl, pNo, pInt, eIsa, isaOf, one, two, way_any, way_near, way_move, way_front, way_ring, way_ff, way_turns, O0, O1]
      · have e : (fstK (K ++ T)).drop K.length = fstK T := by
          unfold fstK
          rw [List.map_append, List.drop_append_of_le_length (by rw [List.length_map]; exact Nat.le_refl _), List.drop_of_length_le (by rw [List.length_map]; exact Nat.le_refl _)]; rfl
        rw [e]; simp [eC, eVar, eFrz, bV, bS, aNil, aCons, aStar, eOp, eUn, eB, eM, eCall, eIf, eAnd, eOr, eNot, eChain, eTup, eLst, deref, derefs, valsOf, tB, tAnd, tOr, tNot, tTrue, iSeq, gName, gAll, gTup, ownL, ownT, gAt, eAppend, ePopK, ePopL, eSeqM, sNext, sSeq, sDrop, sRet, sRetN, sIf, sSet, sAsg, sNew, sNever, sFor, sRetOwn, entry, entryM, outOf, wipeE, backE, aPar, putE, sPar, eSl, pNo, pInt, eIsa, isaOf, one, two, way_any, way_near, way_move, way_front, way_ring, way_ff, way_turns, O0]
  obtain ⟨e', h1, K, rfl, f⟩ := hb
  refine ⟨K, ?_, f.lab rfl, f.us, ne_nil f⟩
  have hp : sPar [2, 3] [(.dt, eD1 (eVar 0) (eC (.int 0))), (.p, eLst (aCons (bV (eVar 0)) (aNil)))] [some ⟨.p, rowD r⟩, some ⟨.p, w.d⟩, none, none, none, none, none] = .ok (.nx, O0 r w [(r, 0)] [r] none) := by
    simp [eC, eVar, eFrz, bV, bS, aNil, aCons, aStar, eOp, eUn, eB, eM, eCall, eIf, eAnd, eOr, eNot, eChain, eTup, eLst, deref, derefs, valsOf, tB, tAnd, tOr, tNot, tTrue, iSeq, gName, gAll, gTup, ownL, ownT, gAt, eAppend, ePopK, ePopL, eSeqM, sNext, sSeq, sDrop, sRet, sRetN, sIf, sSet, sAsg, sNew, sNever, sFor, sRetOwn, entry, entryM, outOf, wipeE, backE, aPar, putE, sPar, eSl, pNo, pInt, eIsa, isaOf, one, two, way_any, way_near, way_move, way_front, way_ring, way_ff, way_turns, O0, eD1, kvD, rowsD]
  simp only [g__law_off, defP, b__law_off]
  rw [if_pos ⟨rfl, by omega⟩]
  show outOf (sSeq _ (sSeq (sWhile [4] fuel (WP.tB (eOp opNe (bV (eVar 3)) (bV (eLst (aNil))))) (sSeq (sNew 4 .m (eLst (aNil))) (sSeq (sFor [5] (iSeq (eVar 3)) (WP.gName 5) (sFor [6] (iSeq (eCall g__law_steps (aCons (bV (eVar 5)) (aCons (bV (eVar 1)) (aNil))))) (WP.gName 6) offB)) (sSet 3 (eFrz 4))))) _) [some ⟨.p, rowD r⟩, some ⟨.p, w.d⟩, none, none, none, none, none]) = _
  rw [seq_nx hp, seq_nx h1]
  simp [eC, eVar, eFrz, bV, bS, aNil, aCons, aStar, eOp, eUn, eB, eM, eCall, eIf, eAnd, eOr, eNot, eChain, eTup, eLst, deref, derefs, valsOf, tB, tAnd, tOr, tNot, tTrue, iSeq, gName, gAll, gTup, ownL, ownT, gAt, eAppend, ePopK, ePopL, eSeqM, sNext, sSeq, sDrop, sRet, sRetN, sIf, sSet, sAsg, sNew, sNever, sFor, sRetOwn, entry, entryM, outOf, wipeE, backE, aPar, putE, sPar, eSl, pNo, pInt, eIsa, isaOf, one, two, way_any, way_near, way_move, way_front, way_ring, way_ff, way_turns, O0]
theorem numbers_tab {K : Tab} (nd : (K.map (·.1)).Nodup) (hn : K ≠ []) (hl : K.length ≤ 1000000) (v1 : valsK K ≠ []) (v3 : (maxOf (valsK K)).toNat + 1 ≤ K.length) (v4 : (((maxOf (valsK K)).toNat : Nat) : Int) = maxOf (valsK K)) : g__law_numbers [.dict (kvD K)] = .ok (rowD (spreadOf (valsK K))) := by
  have e1 := eComp_map (own := [2]) (it := iKeysT (eVar 0)) (g := WP.gName 2) (f := eOp opAt (bV (eVar 0)) (bV (eVar 2))) (env := [some ⟨.p, .dict (kvD K)⟩, none, none, none]) (env1 := [some ⟨.p, .dict (kvD K)⟩, none, none, none])
    (fun p : Row × Int => rowD p.1) (fun p => PyData.int p.2) (ys := K) (by
      unfold iKeysT
      simp [eC, eVar, eFrz, bV, bS, aNil, aCons, aStar, eOp, eUn, eB, eM, eCall, eIf, eAnd, eOr, eNot, eChain, eTup, eLst, deref, derefs, valsOf, tB, tAnd, tOr, tNot, tTrue, iSeq, gName, gAll, gTup, ownL, ownT, gAt, eAppend, ePopK, ePopL, eSeqM, sNext, sSeq, sDrop, sRet, sRetN, sIf, sSet, sAsg, sNew, sNever, sFor, sRetOwn, entry, entryM, outOf, wipeE, backE, aPar, putE, sPar, eSl, pNo, pInt, eIsa, isaOf, one, two, way_any, way_near, way_move, way_front, way_ring, way_ff, way_turns, isT_kv hn]
      simp [eC, eVar, eFrz, bV, bS, aNil, aCons, aStar, eOp, eUn, eB, eM, eCall, eIf, eAnd, eOr, eNot, eChain, eTup, eLst, deref, derefs, valsOf, tB, tAnd, tOr, tNot, tTrue, iSeq, gName, gAll, gTup, ownL, ownT, gAt, eAppend, ePopK, ePopL, eSeqM, sNext, sSeq, sDrop, sRet, sRetN, sIf, sSet, sAsg, sNew, sNever, sFor, sRetOwn, entry, entryM, outOf, wipeE, backE, aPar, putE, sPar, eSl, pNo, pInt, eIsa, isaOf, one, two, way_any, way_near, way_move, way_front, way_ring, way_ff, way_turns, kvD]) (by omega) (fun y hy => ⟨_, [some ⟨.p, .dict (kvD K)⟩, none, some ⟨.p, rowD y.1⟩, none], rfl, by simp [eC, eVar, eFrz, bV, bS, aNil, aCons, aStar, eOp, eUn, eB, eM, eCall, eIf, eAnd, eOr, eNot, eChain, eTup, eLst, deref, derefs, valsOf, tB, tAnd, tOr, tNot, tTrue, iSeq, gName, gAll, gTup, ownL, ownT, gAt, eAppend, ePopK, ePopL, eSeqM, sNext, sSeq, sDrop, sRet, sRetN, sIf, sSet, sAsg, sNew, sNever, sFor, sRetOwn, entry, entryM, outOf, wipeE, backE, aPar, putE, sPar, eSl, pNo, pInt, eIsa, isaOf, one, two, way_any, way_near, way_move, way_front, way_ring, way_ff, way_turns, at_kv hn (lookup_mem nd (show (y.1, y.2) ∈ K from hy))], by simp [eC, eVar, eFrz, bV, bS, aNil, aCons, aStar, eOp, eUn, eB, eM, eCall, eIf, eAnd, eOr, eNot, eChain, eTup, eLst, deref, derefs, valsOf, tB, tAnd, tOr, tNot, tTrue, iSeq, gName, gAll, gTup, ownL, ownT, gAt, eAppend, ePopK, ePopL, eSeqM, sNext, sSeq, sDrop, sRet, sRetN, sIf, sSet, sAsg, sNew, sNever, sFor, sRetOwn, entry, entryM, outOf, wipeE, backE, aPar, putE, sPar, eSl, pNo, pInt, eIsa, isaOf, one, two, way_any, way_near, way_move, way_front, way_ring, way_ff, way_turns]⟩)
  have e1' : K.map (fun p => PyData.int p.2) = (valsK K).map .int := by unfold valsK; rw [List.map_map]; rfl
  rw [e1'] at e1
  have e2 := eComp_map (own := [3]) (it := iRange1 (eOp opAdd (bV (eB (one bMax) (aCons (bV (eVar 1)) aNil))) (bV (eC (.int 1))))) (g := WP.gName 3) (f := eSeqM mCount (eVar 1) (aCons (bV (eVar 3)) aNil)) (env := [some ⟨.p, .dict (kvD K)⟩, some ⟨.p, .list ((valsK K).map .int)⟩, none, none])
    (env1 := [some ⟨.p, .dict (kvD K)⟩, some ⟨.p, .list ((valsK K).map .int)⟩, none, none]) (fun i : Nat => PyData.int (i : Nat)) (fun i : Nat => PyData.int (((valsK K).count (i : Int) : Nat) : Int)) (ys := List.range ((maxOf (valsK K)).toNat + 1))
    (range1_of (by simp [eC, eVar, eFrz, bV, bS, aNil, aCons, aStar, eOp, eUn, eB, eM, eCall, eIf, eAnd, eOr, eNot, eChain, eTup, eLst, deref, derefs, valsOf, tB, tAnd, tOr, tNot, tTrue, iSeq, gName, gAll, gTup, ownL, ownT, gAt, eAppend, ePopK, ePopL, eSeqM, sNext, sSeq, sDrop, sRet, sRetN, sIf, sSet, sAsg, sNew, sNever, sFor, sRetOwn, entry, entryM, outOf, wipeE, backE, aPar, putE, sPar, eSl, pNo, pInt, eIsa, isaOf, one, two, way_any, way_near, way_move, way_front, way_ring, way_ff, way_turns, max_ints v1]; omega) (by omega)) (by rw [List.length_range]; omega) (fun y hy => ⟨_, _, rfl, by simp [eC, eVar, eFrz, bV, bS, aNil, aCons, aStar, eOp, eUn, eB, eM, eCall, eIf, eAnd, eOr, eNot, eChain, eTup, eLst, deref, derefs, valsOf, tB, tAnd, tOr, tNot, tTrue, iSeq, gName, gAll, gTup, ownL, ownT, gAt, eAppend, ePopK, ePopL, eSeqM, sNext, sSeq, sDrop, sRet, sRetN, sIf, sSet, sAsg, sNew, sNever, sFor, sRetOwn, entry, entryM, outOf, wipeE, backE, aPar, putE, sPar, eSl, pNo, pInt, eIsa, isaOf, one, two, way_any, way_near, way_move, way_front, way_ring, way_ff, way_turns, count_list]; rfl, by simp [eC, eVar, eFrz, bV, bS, aNil, aCons, aStar, eOp, eUn, eB, eM, eCall, eIf, eAnd, eOr, eNot, eChain, eTup, eLst, deref, derefs, valsOf, tB, tAnd, tOr, tNot, tTrue, iSeq, gName, gAll, gTup, ownL, ownT, gAt, eAppend, ePopK, ePopL, eSeqM, sNext, sSeq, sDrop, sRet, sRetN, sIf, sSet, sAsg, sNew, sNever, sFor, sRetOwn, entry, entryM, outOf, wipeE, backE, aPar, putE, sPar, eSl, pNo, pInt, eIsa, isaOf, one, two, way_any, way_near, way_move, way_front, way_ring, way_ff, way_turns]⟩)
  simp only [g__law_numbers, defP, b__law_numbers]
  simp [eC, eVar, eFrz, bV, bS, aNil, aCons, aStar, eOp, eUn, eB, eM, eCall, eIf, eAnd, eOr, eNot, eChain, eTup, eLst, deref, derefs, valsOf, tB, tAnd, tOr, tNot, tTrue, iSeq, gName, gAll, gTup, ownL, ownT, gAt, eAppend, ePopK, ePopL, eSeqM, sNext, sSeq, sDrop, sRet, sRetN, sIf, sSet, sAsg, sNew, sNever, sFor, sRetOwn, entry, entryM, outOf, wipeE, backE, aPar, putE, sPar, eSl, pNo, pInt, eIsa, isaOf, one, two, way_any, way_near, way_move, way_front, way_ring, way_ff, way_turns, e1, e2]
  simp [eC, eVar, eFrz, bV, bS, aNil, aCons, aStar, eOp, eUn, eB, eM, eCall, eIf, eAnd, eOr, eNot, eChain, eTup, eLst, deref, derefs, valsOf, tB, tAnd, tOr, tNot, tTrue, iSeq, gName, gAll, gTup, ownL, ownT, gAt, eAppend, ePopK, ePopL, eSeqM, sNext, sSeq, sDrop, sRet, sRetN, sIf, sSet, sAsg, sNew, sNever, sFor, sRetOwn, entry, entryM, outOf, wipeE, backE, aPar, putE, sPar, eSl, pNo, pInt, eIsa, isaOf, one, two, way_any, way_near, way_move, way_front, way_ring, way_ff, way_turns, spreadOf, rowD, List.map_map, Function.comp_def]
end WP
end
section
set_option Elab.async false
set_option linter.all false
set_option maxRecDepth 100000
set_option autoImplicit false
/-! PL11: the two graphs are one. -/
namespace WP
open PySem PySem.Spec
theorem nth_get {r : Row} {i : Nat} (h : i < r.length) : nth r i = r[i] := by
  unfold nth
  rw [List.getD_eq_getElem?_getD, List.getElem?_eq_getElem h]; rfl
theorem split_at {r : Row} {i : Nat} (h : i < r.length) : r = r.take i ++ nth r i :: r.drop (i + 1) := by
  rw [nth_get h, ← List.drop_eq_getElem_cons h, List.take_append_drop]
theorem split_two {r : Row} {i j : Nat} (hij : i < j) (hj : j < r.length) : r = r.take i ++ nth r i :: ((r.drop (i + 1)).take (j - (i + 1)) ++ nth r j :: r.drop (j + 1)) := by
  have h1 := split_at (show i < r.length by omega)
  have h2 : r.drop (i + 1) = (r.drop (i + 1)).take (j - (i + 1)) ++ nth r j :: r.drop (j + 1) := by
    have e := split_at (r := r.drop (i + 1)) (i := j - (i + 1)) (by rw [List.length_drop]; omega)
    have n1 : nth (r.drop (i + 1)) (j - (i + 1)) = nth r j := by
      unfold nth
      rw [List.getD_eq_getElem?_getD, List.getD_eq_getElem?_getD, List.getElem?_drop, show i + 1 + (j - (i + 1)) = j by omega]
    rw [n1, List.drop_drop, show i + 1 + (j - (i + 1) + 1) = j + 1 by omega] at e
    exact e
  rw [← h2]; exact h1
theorem set_at (p : Row) (a b : Int) (q : Row) : (p ++ a :: q).set p.length b = p ++ b :: q := by
  rw [List.set_append_right _ _ (Nat.le_refl _), Nat.sub_self]; rfl
theorem put_split (p m q : Row) (a b : Int) : putR (p ++ a :: (m ++ b :: q)) p.length (p.length + m.length + 1) = p ++ b :: (m ++ a :: q) := by
  have na : nth (p ++ a :: (m ++ b :: q)) p.length = a := by
    unfold nth; rw [List.getD_eq_getElem?_getD]; simp [eC, eVar, eFrz, bV, bS, aNil, aCons, aStar, eOp, eUn, eB, eM, eCall, eIf, eAnd, eOr, eNot, eChain, eTup, eLst, deref, derefs, valsOf, tB, tAnd, tOr, tNot, tTrue, iSeq, gName, gAll, gTup, ownL, ownT, gAt, eAppend, ePopK, ePopL, eSeqM, sNext, sSeq, sDrop, sRet, sRetN, sIf, sSet, sAsg, sNew, sNever, sFor, sRetOwn, entry, entryM, outOf, wipeE, backE, aPar, putE, sPar, eSl, pNo, pInt, eIsa, isaOf, one, two, way_any, way_near, way_move, way_front, way_ring, way_ff, way_turns]
  have nb : nth (p ++ a :: (m ++ b :: q)) (p.length + m.length + 1) = b := by
    unfold nth
    rw [List.getD_eq_getElem?_getD, List.getElem?_append_right (by omega), show p.length + m.length + 1 - p.length = m.length + 1 by omega, List.getElem?_cons_succ, List.getElem?_append_right (Nat.le_refl _), Nat.sub_self]; rfl
  unfold putR
  rw [na, nb, set_at]
  have e : p ++ b :: (m ++ b :: q) = (p ++ b :: m) ++ b :: q := by simp [eC, eVar, eFrz, bV, bS, aNil, aCons, aStar, eOp, eUn, eB, eM, eCall, eIf, eAnd, eOr, eNot, eChain, eTup, eLst, deref, derefs, valsOf, tB, tAnd, tOr, tNot, tTrue, iSeq, gName, gAll, gTup, ownL, ownT, gAt, eAppend, ePopK, ePopL, eSeqM, sNext, sSeq, sDrop, sRet, sRetN, sIf, sSet, sAsg, sNew, sNever, sFor, sRetOwn, entry, entryM, outOf, wipeE, backE, aPar, putE, sPar, eSl, pNo, pInt, eIsa, isaOf, one, two, way_any, way_near, way_move, way_front, way_ring, way_ff, way_turns]
  have l : (p ++ b :: m).length = p.length + m.length + 1 := by simp [eC, eVar, eFrz, bV, bS, aNil, aCons, aStar, eOp, eUn, eB, eM, eCall, eIf, eAnd, eOr, eNot, eChain, eTup, eLst, deref, derefs, valsOf, tB, tAnd, tOr, tNot, tTrue, iSeq, gName, gAll, gTup, ownL, ownT, gAt, eAppend, ePopK, ePopL, eSeqM, sNext, sSeq, sDrop, sRet, sRetN, sIf, sSet, sAsg, sNew, sNever, sFor, sRetOwn, entry, entryM, outOf, wipeE, backE, aPar, putE, sPar, eSl, pNo, pInt, eIsa, isaOf, one, two, way_any, way_near, way_move, way_front, way_ring, way_ff, way_turns]; omega
  rw [e, ← l, set_at]; simp [eC, eVar, eFrz, bV, bS, aNil, aCons, aStar, eOp, eUn, eB, eM, eCall, eIf, eAnd, eOr, eNot, eChain, eTup, eLst, deref, derefs, valsOf, tB, tAnd, tOr, tNot, tTrue, iSeq, gName, gAll, gTup, ownL, ownT, gAt, eAppend, ePopK, ePopL, eSeqM, sNext, sSeq, sDrop, sRet, sRetN, sIf, sSet, sAsg, sNew, sNever, sFor, sRetOwn, entry, entryM, outOf, wipeE, backE, aPar, putE, sPar, eSl, pNo, pInt, eIsa, isaOf, one, two, way_any, way_near, way_move, way_front, way_ring, way_ff, way_turns]
theorem put_swap {r : Row} {i j : Nat} (hij : i < j) (hj : j < r.length) : putR r i j = swapR r i j := by
  have e := split_two hij hj
  have li : (r.take i).length = i := by rw [List.length_take]; omega
  have lm : ((r.drop (i + 1)).take (j - (i + 1))).length = j - (i + 1) := by rw [List.length_take, List.length_drop]; omega
  have h := put_split (r.take i) ((r.drop (i + 1)).take (j - (i + 1))) (r.drop (j + 1)) (nth r i) (nth r j)
  rw [← e, li, lm, show i + (j - (i + 1)) + 1 = j by omega] at h
  rw [h]
  unfold swapR
  simp [eC, eVar, eFrz, bV, bS, aNil, aCons, aStar, eOp, eUn, eB, eM, eCall, eIf, eAnd, eOr, eNot, eChain, eTup, eLst, deref, derefs, valsOf, tB, tAnd, tOr, tNot, tTrue, iSeq, gName, gAll, gTup, ownL, ownT, gAt, eAppend, ePopK, ePopL, eSeqM, sNext, sSeq, sDrop, sRet, sRetN, sIf, sSet, sAsg, sNew, sNever, sFor, sRetOwn, entry, entryM, outOf, wipeE, backE, aPar, putE, sPar, eSl, pNo, pInt, eIsa, isaOf, one, two, way_any, way_near, way_move, way_front, way_ring, way_ff, way_turns]
theorem put_perm {r : Row} {i j : Nat} (hij : i < j) (hj : j < r.length) : (putR r i j).Perm r := by
  have e := split_two hij hj
  have li : (r.take i).length = i := by rw [List.length_take]; omega
  have lm : ((r.drop (i + 1)).take (j - (i + 1))).length = j - (i + 1) := by rw [List.length_take, List.length_drop]; omega
  have h := put_split (r.take i) ((r.drop (i + 1)).take (j - (i + 1))) (r.drop (j + 1)) (nth r i) (nth r j)
  rw [← e, li, lm, show i + (j - (i + 1)) + 1 = j by omega] at h
  rw [h]
  generalize r.take i = p at e ⊢
  generalize (r.drop (i + 1)).take (j - (i + 1)) = m at e ⊢
  generalize r.drop (j + 1) = q at e ⊢
  generalize nth r i = a at e ⊢
  generalize nth r j = b at e ⊢
  rw [e]
  refine List.Perm.append_left p ?_
  have h1 : (b :: (m ++ a :: q)).Perm (b :: a :: (m ++ q)) := List.Perm.cons b List.perm_middle
  have h2 : (a :: (m ++ b :: q)).Perm (a :: b :: (m ++ q)) := List.Perm.cons a List.perm_middle
  exact h1.trans ((List.Perm.swap a b _).trans h2.symm)
theorem shift_perm {r : Row} {i j : Nat} (hi : i < r.length) : (shiftR r i j).Perm r := by
  have e := split_at hi
  unfold shiftR
  have h : ((r.take i ++ r.drop (i + 1)).take j ++ nth r i :: (r.take i ++ r.drop (i + 1)).drop j).Perm (nth r i :: (r.take i ++ r.drop (i + 1))) := by
    refine List.perm_middle.trans ?_
    rw [List.take_append_drop]
  refine h.trans ?_
  have h2 : (nth r i :: (r.take i ++ r.drop (i + 1))).Perm (r.take i ++ nth r i :: r.drop (i + 1)) := List.perm_middle.symm
  rw [← e] at h2
  exact h2
theorem shift_self {r : Row} {i : Nat} (hi : i < r.length) : shiftR r i i = r := by
  have e := split_at hi
  have li : (r.take i).length = i := by rw [List.length_take]; omega
  unfold shiftR
  rw [List.take_append_of_le_length (by omega), List.take_of_length_le (by omega), List.drop_append_of_le_length (by omega), List.drop_of_length_le (by omega), List.nil_append]
  exact e.symm
theorem mem_allPairs {n : Nat} {p : Nat × Nat} : p ∈ allPairs n ↔ p.1 < n ∧ p.2 < n ∧ p.1 ≠ p.2 := by
  unfold allPairs
  simp only [List.mem_flatMap, List.mem_range, List.mem_map, List.mem_filter, decide_eq_true_eq]
  constructor
  · rintro ⟨i, hi, j, ⟨hj, hne⟩, rfl⟩; exact ⟨hi, hj, hne⟩
  · rintro ⟨h1, h2, h3⟩; exact ⟨p.1, h1, p.2, ⟨h2, h3⟩, rfl⟩
theorem mem_nbr {w : Way} {r v : Row} : v ∈ nbr w r ↔ match w with
    | .any => ∃ i j, i < j ∧ j < r.length ∧ v = putR r i j
    | .near => ∃ i, i + 1 < r.length ∧ v = putR r i (i + 1)
    | .move => ∃ i j, i < r.length ∧ j < r.length ∧ i ≠ j ∧ v = shiftR r i j
    | .front => ∃ i, i + 1 < r.length ∧ v = shiftR r (i + 1) 0 := by
  unfold nbr
  rw [List.mem_map]
  cases w with
  | any =>
    constructor
    · rintro ⟨p, hp, rfl⟩
      have h := List.mem_filter.mp hp
      obtain ⟨h1, h2, h3⟩ := mem_allPairs.mp h.1
      exact ⟨p.1, p.2, of_decide_eq_true h.2, h2, rfl⟩
    · rintro ⟨i, j, h1, h2, rfl⟩
      exact ⟨(i, j), List.mem_filter.mpr ⟨mem_allPairs.mpr ⟨by dsimp only; omega, h2, by dsimp only; omega⟩, decide_eq_true h1⟩, rfl⟩
  | near =>
    constructor
    · rintro ⟨p, hp, rfl⟩
      obtain ⟨i, hi, rfl⟩ := List.mem_map.mp hp
      have := List.mem_range.mp hi
      exact ⟨i, by omega, rfl⟩
    · rintro ⟨i, h1, rfl⟩
      exact ⟨(i, i + 1), List.mem_map.mpr ⟨i, List.mem_range.mpr (by omega), rfl⟩, rfl⟩
  | move =>
    constructor
    · rintro ⟨p, hp, rfl⟩
      obtain ⟨h1, h2, h3⟩ := mem_allPairs.mp hp
      exact ⟨p.1, p.2, h1, h2, h3, rfl⟩
    · rintro ⟨i, j, h1, h2, h3, rfl⟩
      exact ⟨(i, j), mem_allPairs.mpr ⟨h1, h2, h3⟩, rfl⟩
  | front =>
    constructor
    · rintro ⟨p, hp, rfl⟩
      obtain ⟨i, hi, rfl⟩ := List.mem_map.mp hp
      have := List.mem_range.mp hi
      exact ⟨i, by omega, rfl⟩
    · rintro ⟨i, h1, rfl⟩
      exact ⟨(0, i + 1), List.mem_map.mpr ⟨i, List.mem_range.mpr (by omega), rfl⟩, rfl⟩
theorem mem_steps {w : Way} {r v : Row} : v ∈ lawSteps w r ↔ match w with
    | .any => ∃ i j, i < j ∧ j < r.length ∧ v = swapR r i j
    | .near => ∃ i, i + 1 < r.length ∧ v = swapR r i (i + 1)
    | .move => ∃ i j, i < r.length ∧ j < r.length ∧ v = shiftR r i j
    | .front => ∃ i, i < r.length ∧ v = shiftR r i 0 := by
  unfold lawSteps
  simp only [List.mem_flatMap, List.mem_range]
  cases w with
  | any =>
    constructor
    · rintro ⟨i, hi, j, hj, h⟩
      unfold stepAt at h
      rw [if_neg (by simp [eC, eVar, eFrz, bV, bS, aNil, aCons, aStar, eOp, eUn, eB, eM, eCall, eIf, eAnd, eOr, eNot, eChain, eTup, eLst, deref, derefs, valsOf, tB, tAnd, tOr, tNot, tTrue, iSeq, gName, gAll, gTup, ownL, ownT, gAt, eAppend, ePopK, ePopL, eSeqM, sNext, sSeq, sDrop, sRet, sRetN, sIf, sSet, sAsg, sNew, sNever, sFor, sRetOwn, entry, entryM, outOf, wipeE, backE, aPar, putE, sPar, eSl, pNo, pInt, eIsa, isaOf, one, two, way_any, way_near, way_move, way_front, way_ring, way_ff, way_turns])] at h
      split at h
      · rename_i c
        exact ⟨i, j, c.1, hj, List.mem_singleton.mp h⟩
      · cases h
    · rintro ⟨i, j, h1, h2, rfl⟩
      refine ⟨i, by omega, j, h2, ?_⟩
      unfold stepAt
      rw [if_neg (by simp [eC, eVar, eFrz, bV, bS, aNil, aCons, aStar, eOp, eUn, eB, eM, eCall, eIf, eAnd, eOr, eNot, eChain, eTup, eLst, deref, derefs, valsOf, tB, tAnd, tOr, tNot, tTrue, iSeq, gName, gAll, gTup, ownL, ownT, gAt, eAppend, ePopK, ePopL, eSeqM, sNext, sSeq, sDrop, sRet, sRetN, sIf, sSet, sAsg, sNew, sNever, sFor, sRetOwn, entry, entryM, outOf, wipeE, backE, aPar, putE, sPar, eSl, pNo, pInt, eIsa, isaOf, one, two, way_any, way_near, way_move, way_front, way_ring, way_ff, way_turns]), if_pos ⟨h1, .inl rfl⟩]
      exact List.mem_singleton.mpr rfl
  | near =>
    constructor
    · rintro ⟨i, hi, j, hj, h⟩
      unfold stepAt at h
      rw [if_neg (by simp [eC, eVar, eFrz, bV, bS, aNil, aCons, aStar, eOp, eUn, eB, eM, eCall, eIf, eAnd, eOr, eNot, eChain, eTup, eLst, deref, derefs, valsOf, tB, tAnd, tOr, tNot, tTrue, iSeq, gName, gAll, gTup, ownL, ownT, gAt, eAppend, ePopK, ePopL, eSeqM, sNext, sSeq, sDrop, sRet, sRetN, sIf, sSet, sAsg, sNew, sNever, sFor, sRetOwn, entry, entryM, outOf, wipeE, backE, aPar, putE, sPar, eSl, pNo, pInt, eIsa, isaOf, one, two, way_any, way_near, way_move, way_front, way_ring, way_ff, way_turns])] at h
      split at h
      · rename_i c
        rcases c.2 with z | z
        · cases z
        · have := z.2
          subst this
          exact ⟨i, hj, List.mem_singleton.mp h⟩
      · cases h
    · rintro ⟨i, h1, rfl⟩
      refine ⟨i, by omega, i + 1, h1, ?_⟩
      unfold stepAt
      rw [if_neg (by simp [eC, eVar, eFrz, bV, bS, aNil, aCons, aStar, eOp, eUn, eB, eM, eCall, eIf, eAnd, eOr, eNot, eChain, eTup, eLst, deref, derefs, valsOf, tB, tAnd, tOr, tNot, tTrue, iSeq, gName, gAll, gTup, ownL, ownT, gAt, eAppend, ePopK, ePopL, eSeqM, sNext, sSeq, sDrop, sRet, sRetN, sIf, sSet, sAsg, sNew, sNever, sFor, sRetOwn, entry, entryM, outOf, wipeE, backE, aPar, putE, sPar, eSl, pNo, pInt, eIsa, isaOf, one, two, way_any, way_near, way_move, way_front, way_ring, way_ff, way_turns]), if_pos ⟨Nat.lt_succ_self _, .inr ⟨rfl, rfl⟩⟩]
      exact List.mem_singleton.mpr rfl
  | move =>
    constructor
    · rintro ⟨i, hi, j, hj, h⟩
      unfold stepAt at h
      rw [if_pos (.inl rfl)] at h
      exact ⟨i, j, hi, hj, List.mem_singleton.mp h⟩
    · rintro ⟨i, j, h1, h2, rfl⟩
      refine ⟨i, h1, j, h2, ?_⟩
      unfold stepAt
      rw [if_pos (.inl rfl)]
      exact List.mem_singleton.mpr rfl
  | front =>
    constructor
    · rintro ⟨i, hi, j, hj, h⟩
      unfold stepAt at h
      by_cases z : j = 0
      · subst z
        rw [if_pos (.inr ⟨rfl, rfl⟩)] at h
        exact ⟨i, hi, List.mem_singleton.mp h⟩
      · rw [if_neg (by simp [eC, eVar, eFrz, bV, bS, aNil, aCons, aStar, eOp, eUn, eB, eM, eCall, eIf, eAnd, eOr, eNot, eChain, eTup, eLst, deref, derefs, valsOf, tB, tAnd, tOr, tNot, tTrue, iSeq, gName, gAll, gTup, ownL, ownT, gAt, eAppend, ePopK, ePopL, eSeqM, sNext, sSeq, sDrop, sRet, sRetN, sIf, sSet, sAsg, sNew, sNever, sFor, sRetOwn, entry, entryM, outOf, wipeE, backE, aPar, putE, sPar, eSl, pNo, pInt, eIsa, isaOf, one, two, way_any, way_near, way_move, way_front, way_ring, way_ff, way_turns, z]), if_neg (by simp [eC, eVar, eFrz, bV, bS, aNil, aCons, aStar, eOp, eUn, eB, eM, eCall, eIf, eAnd, eOr, eNot, eChain, eTup, eLst, deref, derefs, valsOf, tB, tAnd, tOr, tNot, tTrue, iSeq, gName, gAll, gTup, ownL, ownT, gAt, eAppend, ePopK, ePopL, eSeqM, sNext, sSeq, sDrop, sRet, sRetN, sIf, sSet, sAsg, sNew, sNever, sFor, sRetOwn, entry, entryM, outOf, wipeE, backE, aPar, putE, sPar, eSl, pNo, pInt, eIsa, isaOf, one, two, way_any, way_near, way_move, way_front, way_ring, way_ff, way_turns])] at h
        cases h
    · rintro ⟨i, h1, rfl⟩
      refine ⟨i, h1, 0, by omega, ?_⟩
      unfold stepAt
      rw [if_pos (.inr ⟨rfl, rfl⟩)]
      exact List.mem_singleton.mpr rfl
theorem steps_of_nbr {w : Way} {r v : Row} (h : v ∈ nbr w r) : v ∈ lawSteps w r := by
  rw [mem_nbr] at h
  rw [mem_steps]
  cases w with
  | any => obtain ⟨i, j, h1, h2, rfl⟩ := h; exact ⟨i, j, h1, h2, put_swap h1 h2⟩
  | near => obtain ⟨i, h1, rfl⟩ := h; exact ⟨i, h1, put_swap (Nat.lt_succ_self _) h1⟩
  | move => obtain ⟨i, j, h1, h2, _, rfl⟩ := h; exact ⟨i, j, h1, h2, rfl⟩
  | front => obtain ⟨i, h1, rfl⟩ := h; exact ⟨i + 1, h1, rfl⟩
theorem nbr_of_steps {w : Way} {r v : Row} (h : v ∈ lawSteps w r) (hv : v ≠ r) : v ∈ nbr w r := by
  rw [mem_steps] at h
  rw [mem_nbr]
  cases w with
  | any => obtain ⟨i, j, h1, h2, rfl⟩ := h; exact ⟨i, j, h1, h2, (put_swap h1 h2).symm⟩
  | near => obtain ⟨i, h1, rfl⟩ := h; exact ⟨i, h1, (put_swap (Nat.lt_succ_self _) h1).symm⟩
  | move =>
    obtain ⟨i, j, h1, h2, rfl⟩ := h
    exact ⟨i, j, h1, h2, fun z => hv (by rw [← z]; exact shift_self h1), rfl⟩
  | front =>
    obtain ⟨i, h1, rfl⟩ := h
    cases i with
    | zero => exact absurd (shift_self h1) hv
    | succ i => exact ⟨i, h1, rfl⟩
theorem nbr_perm {w : Way} {r v : Row} (h : v ∈ nbr w r) : v.Perm r := by
  rw [mem_nbr] at h
  cases w with
  | any => obtain ⟨i, j, h1, h2, rfl⟩ := h; exact put_perm h1 h2
  | near => obtain ⟨i, h1, rfl⟩ := h; exact put_perm (Nat.lt_succ_self _) h1
  | move => obtain ⟨i, j, h1, h2, _, rfl⟩ := h; exact shift_perm h1
  | front => obtain ⟨i, h1, rfl⟩ := h; exact shift_perm h1
theorem steps_perm {w : Way} {r v : Row} (h : v ∈ lawSteps w r) : v.Perm r := by
  by_cases z : v = r
  · rw [z]
  · exact nbr_perm (nbr_of_steps h z)
end WP
end
section
set_option Elab.async false
set_option linter.all false
set_option maxRecDepth 100000
set_option autoImplicit false
/-! PL12: all arrangements; all are reached. -/
namespace WP
open PySem PySem.Spec
def stepRows (k : Nat) (r x : Row) : List Row := ((List.range k).filter fun c : Nat => decide (x.count (c : Int) < r.count (c : Int))).map fun c : Nat => x ++ [(c : Int)]
def rowsN (k : Nat) (r : Row) : Nat → List Row
  | 0 => [[]]
  | m + 1 => (rowsN k r m).flatMap (stepRows k r)
def arr (k : Nat) (r : Row) : List Row := rowsN k r r.length
theorem count_snoc (l : Row) (y c : Int) : (l ++ [y]).count c = l.count c + if y = c then 1 else 0 := by
  rw [List.count_append]
  by_cases h : y = c
  · subst h; simp [eC, eVar, eFrz, bV, bS, aNil, aCons, aStar, eOp, eUn, eB, eM, eCall, eIf, eAnd, eOr, eNot, eChain, eTup, eLst, deref, derefs, valsOf, tB, tAnd, tOr, tNot, tTrue, iSeq, gName, gAll, gTup, ownL, ownT, gAt, eAppend, ePopK, ePopL, eSeqM, sNext, sSeq, sDrop, sRet, sRetN, sIf, sSet, sAsg, sNew, sNever, sFor, sRetOwn, entry, entryM, outOf, wipeE, backE, aPar, putE, sPar, eSl, pNo, pInt, eIsa, isaOf, one, two, way_any, way_near, way_move, way_front, way_ring, way_ff, way_turns]
  · simp [eC, eVar, eFrz, bV, bS, aNil, aCons, aStar, eOp, eUn, eB, eM, eCall, eIf, eAnd, eOr, eNot, eChain, eTup, eLst, deref, derefs, valsOf, tB, tAnd, tOr, tNot, tTrue, iSeq, gName, gAll, gTup, ownL, ownT, gAt, eAppend, ePopK, ePopL, eSeqM, sNext, sSeq, sDrop, sRet, sRetN, sIf, sSet, sAsg, sNew, sNever, sFor, sRetOwn, entry, entryM, outOf, wipeE, backE, aPar, putE, sPar, eSl, pNo, pInt, eIsa, isaOf, one, two, way_any, way_near, way_move, way_front, way_ring, way_ff, way_turns, h]
theorem mem_rowsN (k : Nat) (r : Row) : ∀ (m : Nat) (x : Row), x ∈ rowsN k r m ↔ x.length = m ∧ (∀ y ∈ x, ∃ c : Nat, c < k ∧ y = (c : Int)) ∧ ∀ c : Int, x.count c ≤ r.count c
  | 0, x => by
    constructor
    · intro h
      have e : x = [] := List.mem_singleton.mp h
      subst e
      exact ⟨rfl, fun y h => (List.not_mem_nil h).elim, fun _ => Nat.zero_le _⟩
    · rintro ⟨h, _⟩
      rw [List.eq_nil_of_length_eq_zero h]; exact List.mem_singleton.mpr rfl
  | m + 1, x => by
    unfold rowsN stepRows
    simp only [List.mem_flatMap, List.mem_map, List.mem_filter, List.mem_range, decide_eq_true_eq]
    constructor
    · rintro ⟨l, hl, c, ⟨hc, hcount⟩, rfl⟩
      obtain ⟨h1, h2, h3⟩ := (mem_rowsN k r m l).mp hl
      refine ⟨by rw [List.length_append, List.length_singleton, h1], fun y hy => ?_, fun d => ?_⟩
      · rcases List.mem_append.mp hy with z | z
        · exact h2 y z
        · exact ⟨c, hc, List.mem_singleton.mp z⟩
      · rw [count_snoc]
        have := h3 d
        by_cases e : (c : Int) = d
        · rw [if_pos e]
          rw [e] at hcount
          omega
        · rw [if_neg e]; exact this
    · rintro ⟨h1, h2, h3⟩
      rcases List.eq_nil_or_concat x with e | ⟨l, y, e⟩
      · rw [e] at h1; cases h1
      · subst e
        rw [List.concat_eq_append] at h1 h2 h3 ⊢
        obtain ⟨c, hc, rfl⟩ := h2 y (List.mem_append_right _ (List.mem_singleton.mpr rfl))
        refine ⟨l, (mem_rowsN k r m l).mpr ⟨by rw [List.length_append, List.length_singleton] at h1; omega, fun z hz => h2 z (List.mem_append_left _ hz), fun d => ?_⟩, c, ⟨hc, ?_⟩, rfl⟩
        · have := h3 d
          rw [count_snoc] at this
          omega
        · have := h3 (c : Int)
          rw [count_snoc, if_pos rfl] at this
          omega
theorem rowsN_nodup (k : Nat) (r : Row) : ∀ m : Nat, (rowsN k r m).Nodup
  | 0 => by simp [eC, eVar, eFrz, bV, bS, aNil, aCons, aStar, eOp, eUn, eB, eM, eCall, eIf, eAnd, eOr, eNot, eChain, eTup, eLst, deref, derefs, valsOf, tB, tAnd, tOr, tNot, tTrue, iSeq, gName, gAll, gTup, ownL, ownT, gAt, eAppend, ePopK, ePopL, eSeqM, sNext, sSeq, sDrop, sRet, sRetN, sIf, sSet, sAsg, sNew, sNever, sFor, sRetOwn, entry, entryM, outOf, wipeE, backE, aPar, putE, sPar, eSl, pNo, pInt, eIsa, isaOf, one, two, way_any, way_near, way_move, way_front, way_ring, way_ff, way_turns, rowsN]
  | m + 1 => by
    unfold rowsN
    rw [List.nodup_iff_pairwise_ne, List.pairwise_flatMap]
    refine ⟨fun l _ => ?_, ?_⟩
    · unfold stepRows
      rw [List.pairwise_map]
      refine List.Pairwise.imp ?_ ((List.nodup_iff_pairwise_ne.mp List.nodup_range).filter _)
      intro a b h e
      have := List.append_cancel_left e
      simp only [List.cons.injEq, and_true] at this
      exact h (Int.ofNat_inj.mp this)
    · refine List.Pairwise.imp ?_ (List.nodup_iff_pairwise_ne.mp (rowsN_nodup k r m))
      intro a b h x hx y hy e
      unfold stepRows at hx hy
      obtain ⟨c, _, rfl⟩ := List.mem_map.mp hx
      obtain ⟨d, _, rfl⟩ := List.mem_map.mp hy
      have e2 := congrArg List.dropLast e
      rw [List.dropLast_concat, List.dropLast_concat] at e2
      exact h e2
theorem rowsN_len (k : Nat) (r : Row) : ∀ m : Nat, (rowsN k r m).length ≤ k ^ m
  | 0 => by simp [eC, eVar, eFrz, bV, bS, aNil, aCons, aStar, eOp, eUn, eB, eM, eCall, eIf, eAnd, eOr, eNot, eChain, eTup, eLst, deref, derefs, valsOf, tB, tAnd, tOr, tNot, tTrue, iSeq, gName, gAll, gTup, ownL, ownT, gAt, eAppend, ePopK, ePopL, eSeqM, sNext, sSeq, sDrop, sRet, sRetN, sIf, sSet, sAsg, sNew, sNever, sFor, sRetOwn, entry, entryM, outOf, wipeE, backE, aPar, putE, sPar, eSl, pNo, pInt, eIsa, isaOf, one, two, way_any, way_near, way_move, way_front, way_ring, way_ff, way_turns, rowsN]
  | m + 1 => by
    have ih := rowsN_len k r m
    have := flat_le (stepRows k r) k (rowsN k r m) fun x _ => by
      unfold stepRows
      rw [List.length_map]
      exact Nat.le_trans (List.length_filter_le _ _) (by rw [List.length_range]; exact Nat.le_refl _)
    unfold rowsN
    rw [Nat.pow_succ]
    exact Nat.le_trans this (Nat.mul_le_mul_right k ih)
theorem perm_of_counts : ∀ (x r : Row), (∀ c : Int, x.count c ≤ r.count c) → ∃ t, r.Perm (x ++ t)
  | [], r, _ => ⟨r, List.Perm.refl _⟩
  | y :: x, r, h => by
    have hy : y ∈ r := by
      have := h y
      rw [List.count_cons_self] at this
      exact List.count_pos_iff.mp (by omega)
    have p := List.perm_cons_erase hy
    obtain ⟨t, ht⟩ := perm_of_counts x (r.erase y) fun c => by
      have a := h c
      have b := p.count_eq c
      rw [List.count_cons] at a b
      omega
    exact ⟨t, p.trans (ht.cons y)⟩
/-- a row's items are kinds -/
def InK (k : Nat) (r : Row) : Prop := ∀ y ∈ r, ∃ c : Nat, c < k ∧ y = (c : Int)
theorem mem_arr {k : Nat} {r x : Row} (hk : InK k r) : x ∈ arr k r ↔ x.Perm r := by
  unfold arr
  rw [mem_rowsN]
  constructor
  · rintro ⟨h1, _, h3⟩
    obtain ⟨t, ht⟩ := perm_of_counts x r h3
    have hl := ht.length_eq
    rw [List.length_append] at hl
    have e : t = [] := List.eq_nil_of_length_eq_zero (by omega)
    rw [e, List.append_nil] at ht
    exact ht.symm
  · intro p
    exact ⟨p.length_eq, fun y hy => hk y (p.mem_iff.mp hy), fun c => Nat.le_of_eq (p.count_eq c)⟩
theorem arr_few {k : Nat} {r : Row} (hk : k ≤ 4) (hr : r.length ≤ 7) : (arr k r).length ≤ 1000000 := by
  refine Nat.le_trans (rowsN_len k r r.length) ?_
  have h1 : k ^ r.length ≤ 4 ^ r.length := Nat.pow_le_pow_left hk _
  have h2 : 4 ^ r.length ≤ 4 ^ 7 := Nat.pow_le_pow_right (by decide) hr
  have h3 : 4 ^ 7 ≤ 1000000 := by decide
  omega
theorem ground_arr {k : Nat} {r : Row} (w : Way) (hI : InK k r) (hk : k ≤ 4) (h1 : 1 ≤ r.length) (hr : r.length ≤ 7) : Ground r w (arr k r) :=
  ⟨(mem_arr hI).mpr (List.Perm.refl _), fun u hu v hv => (mem_arr hI).mpr ((nbr_perm hv).trans ((mem_arr hI).mp hu)), fun u hu => ((mem_arr hI).mp hu).length_eq, arr_few hk hr, h1, by omega⟩
theorem groundL_arr {k : Nat} {r : Row} (w : Way) (hI : InK k r) (hk : k ≤ 4) (hr : r.length ≤ 7) : GroundL r w (arr k r) :=
  ⟨(mem_arr hI).mpr (List.Perm.refl _), fun u hu v hv => (mem_arr hI).mpr ((steps_perm hv).trans ((mem_arr hI).mp hu)), fun u hu => ((mem_arr hI).mp hu).length_eq, arr_few hk hr, by omega⟩
/-! ### all are reached -/
theorem perm_closed {C : Row → Prop} (hadj : ∀ p a b q, C (p ++ a :: b :: q) → C (p ++ b :: a :: q)) : ∀ {l l' : Row}, l.Perm l' → ∀ p, C (p ++ l) → C (p ++ l') := by
  intro l l' h
  induction h with
  | nil => intro p h; exact h
  | cons x _ ih =>
    intro p h
    have := ih (p ++ [x]) (by rw [List.append_assoc]; exact h)
    rwa [List.append_assoc] at this
  | swap x y l => intro p h; exact hadj p y x l h
  | trans _ _ ih1 ih2 => intro p h; exact ih2 p (ih1 p h)
theorem shift_front (a : Row) (z : Int) (b : Row) : shiftR (a ++ z :: b) a.length 0 = z :: (a ++ b) := by
  have n : nth (a ++ z :: b) a.length = z := by
    unfold nth; rw [List.getD_eq_getElem?_getD]; simp [eC, eVar, eFrz, bV, bS, aNil, aCons, aStar, eOp, eUn, eB, eM, eCall, eIf, eAnd, eOr, eNot, eChain, eTup, eLst, deref, derefs, valsOf, tB, tAnd, tOr, tNot, tTrue, iSeq, gName, gAll, gTup, ownL, ownT, gAt, eAppend, ePopK, ePopL, eSeqM, sNext, sSeq, sDrop, sRet, sRetN, sIf, sSet, sAsg, sNew, sNever, sFor, sRetOwn, entry, entryM, outOf, wipeE, backE, aPar, putE, sPar, eSl, pNo, pInt, eIsa, isaOf, one, two, way_any, way_near, way_move, way_front, way_ring, way_ff, way_turns]
  unfold shiftR
  rw [n, List.take_zero, List.drop_zero, List.nil_append, List.take_left, ← List.drop_drop, List.drop_left]
  rfl
theorem shift_next (p : Row) (a b : Int) (q : Row) : shiftR (p ++ a :: b :: q) p.length (p.length + 1) = p ++ b :: a :: q := by
  have n : nth (p ++ a :: b :: q) p.length = a := by
    unfold nth; rw [List.getD_eq_getElem?_getD]; simp [eC, eVar, eFrz, bV, bS, aNil, aCons, aStar, eOp, eUn, eB, eM, eCall, eIf, eAnd, eOr, eNot, eChain, eTup, eLst, deref, derefs, valsOf, tB, tAnd, tOr, tNot, tTrue, iSeq, gName, gAll, gTup, ownL, ownT, gAt, eAppend, ePopK, ePopL, eSeqM, sNext, sSeq, sDrop, sRet, sRetN, sIf, sSet, sAsg, sNew, sNever, sFor, sRetOwn, entry, entryM, outOf, wipeE, backE, aPar, putE, sPar, eSl, pNo, pInt, eIsa, isaOf, one, two, way_any, way_near, way_move, way_front, way_ring, way_ff, way_turns]
  have d : (p ++ a :: b :: q).drop (p.length + 1) = b :: q := by rw [← List.drop_drop, List.drop_left]; rfl
  unfold shiftR
  rw [n, d, List.take_left]
  have e : p ++ b :: q = (p ++ [b]) ++ q := by simp [eC, eVar, eFrz, bV, bS, aNil, aCons, aStar, eOp, eUn, eB, eM, eCall, eIf, eAnd, eOr, eNot, eChain, eTup, eLst, deref, derefs, valsOf, tB, tAnd, tOr, tNot, tTrue, iSeq, gName, gAll, gTup, ownL, ownT, gAt, eAppend, ePopK, ePopL, eSeqM, sNext, sSeq, sDrop, sRet, sRetN, sIf, sSet, sAsg, sNew, sNever, sFor, sRetOwn, entry, entryM, outOf, wipeE, backE, aPar, putE, sPar, eSl, pNo, pInt, eIsa, isaOf, one, two, way_any, way_near, way_move, way_front, way_ring, way_ff, way_turns]
  have l : (p ++ [b]).length = p.length + 1 := by simp [eC, eVar, eFrz, bV, bS, aNil, aCons, aStar, eOp, eUn, eB, eM, eCall, eIf, eAnd, eOr, eNot, eChain, eTup, eLst, deref, derefs, valsOf, tB, tAnd, tOr, tNot, tTrue, iSeq, gName, gAll, gTup, ownL, ownT, gAt, eAppend, ePopK, ePopL, eSeqM, sNext, sSeq, sDrop, sRet, sRetN, sIf, sSet, sAsg, sNew, sNever, sFor, sRetOwn, entry, entryM, outOf, wipeE, backE, aPar, putE, sPar, eSl, pNo, pInt, eIsa, isaOf, one, two, way_any, way_near, way_move, way_front, way_ring, way_ff, way_turns]
  rw [e, ← l, List.take_left, List.drop_left]; simp [eC, eVar, eFrz, bV, bS, aNil, aCons, aStar, eOp, eUn, eB, eM, eCall, eIf, eAnd, eOr, eNot, eChain, eTup, eLst, deref, derefs, valsOf, tB, tAnd, tOr, tNot, tTrue, iSeq, gName, gAll, gTup, ownL, ownT, gAt, eAppend, ePopK, ePopL, eSeqM, sNext, sSeq, sDrop, sRet, sRetN, sIf, sSet, sAsg, sNew, sNever, sFor, sRetOwn, entry, entryM, outOf, wipeE, backE, aPar, putE, sPar, eSl, pNo, pInt, eIsa, isaOf, one, two, way_any, way_near, way_move, way_front, way_ring, way_ff, way_turns]
theorem front_all {C : Row → Prop} (hc : ∀ u v, C u → v ∈ nbr .front u → C v) : ∀ (n : Nat) (y : Row), y.length = n → ∀ p rest, C (p ++ rest) → rest.Perm y → C (y ++ p) := by
  intro n
  induction n with
  | zero =>
    intro y hy p rest h hp
    have e : y = [] := List.eq_nil_of_length_eq_zero hy
    subst e
    rw [List.perm_nil.mp hp, List.append_nil] at h
    exact h
  | succ n ih =>
    intro y hy p rest h hp
    rcases List.eq_nil_or_concat y with e | ⟨y', z, e⟩
    · rw [e] at hy; cases hy
    · rw [List.concat_eq_append] at e
      subst e
      have hz : z ∈ rest := hp.mem_iff.mpr (List.mem_append_right _ (List.mem_singleton.mpr rfl))
      obtain ⟨s, t, rfl⟩ := List.append_of_mem hz
      have hp' : (s ++ t).Perm y' := by
        have a : (z :: (s ++ t)).Perm (s ++ z :: t) := List.perm_middle.symm
        have b : (y' ++ [z]).Perm (z :: y') := List.perm_append_singleton z y'
        exact ((a.trans hp).trans b).cons_inv
      have hl : y'.length = n := by rw [List.length_append, List.length_singleton] at hy; omega
      have key : C (z :: ((p ++ s) ++ t)) := by
        by_cases e : p ++ s = []
        · obtain ⟨e1, e2⟩ := List.append_eq_nil_iff.mp e
          subst e1 e2
          exact h
        · refine hc _ _ h (mem_nbr.mpr ?_)
          have pos := List.length_pos_iff.mpr e
          refine ⟨(p ++ s).length - 1, ?_, ?_⟩
          · have e1 : (p ++ (s ++ z :: t)).length = (p ++ s).length + (t.length + 1) := by rw [← List.append_assoc, List.length_append (as := p ++ s), List.length_cons]
            rw [e1]; omega
          · rw [← List.append_assoc, Nat.sub_add_cancel pos, shift_front]
      have := ih y' hl (z :: p) (s ++ t) (by rw [List.cons_append, ← List.append_assoc]; exact key) hp'
      rw [List.append_assoc]
      exact this
theorem reach (w : Way) {C : Row → Prop} {r : Row} (h0 : C r) (hc : ∀ u v, C u → v ∈ nbr w u → C v) {x : Row} (hx : x.Perm r) : C x := by
  by_cases hf : w = .front
  · subst hf
    have := front_all hc x.length x rfl [] r h0 hx.symm
    rwa [List.append_nil] at this
  · refine perm_closed (C := C) (fun p a b q h => ?_) hx.symm [] h0
    refine hc _ _ h (mem_nbr.mpr ?_)
    have l : p.length + 1 < (p ++ a :: b :: q).length := by simp [eC, eVar, eFrz, bV, bS, aNil, aCons, aStar, eOp, eUn, eB, eM, eCall, eIf, eAnd, eOr, eNot, eChain, eTup, eLst, deref, derefs, valsOf, tB, tAnd, tOr, tNot, tTrue, iSeq, gName, gAll, gTup, ownL, ownT, gAt, eAppend, ePopK, ePopL, eSeqM, sNext, sSeq, sDrop, sRet, sRetN, sIf, sSet, sAsg, sNew, sNever, sFor, sRetOwn, entry, entryM, outOf, wipeE, backE, aPar, putE, sPar, eSl, pNo, pInt, eIsa, isaOf, one, two, way_any, way_near, way_move, way_front, way_ring, way_ff, way_turns]
    have e : putR (p ++ a :: b :: q) p.length (p.length + 1) = p ++ b :: a :: q := by
      have := put_split p [] q a b
      simpa [eC, eVar, eFrz, bV, bS, aNil, aCons, aStar, eOp, eUn, eB, eM, eCall, eIf, eAnd, eOr, eNot, eChain, eTup, eLst, deref, derefs, valsOf, tB, tAnd, tOr, tNot, tTrue, iSeq, gName, gAll, gTup, ownL, ownT, gAt, eAppend, ePopK, ePopL, eSeqM, sNext, sSeq, sDrop, sRet, sRetN, sIf, sSet, sAsg, sNew, sNever, sFor, sRetOwn, entry, entryM, outOf, wipeE, backE, aPar, putE, sPar, eSl, pNo, pInt, eIsa, isaOf, one, two, way_any, way_near, way_move, way_front, way_ring, way_ff, way_turns] using this
    cases w with
    | any => exact ⟨p.length, p.length + 1, Nat.lt_succ_self _, l, e.symm⟩
    | near => exact ⟨p.length, l, e.symm⟩
    | move => exact ⟨p.length, p.length + 1, by omega, l, by omega, (shift_next p a b q).symm⟩
    | front => exact absurd rfl hf
/-- as many are told of as there are -/
theorem Lab.full {k : Nat} {r : Row} {w : Way} {K : Tab} (hI : InK k r) (l : Lab r (nbr w) K) (hU : ∀ p ∈ K, p.1 ∈ arr k r) : K.length = (arr k r).length := by
  have h1 := len_le (K.map (·.1)) (arr k r) l.nd fun x hx => by
    obtain ⟨p, hp, e⟩ := List.mem_map.mp hx
    rw [← e]; exact hU p hp
  have h2 := len_le (arr k r) (K.map (·.1)) (rowsN_nodup k r r.length) fun x hx => by
    have hp := (mem_arr hI).mp hx
    have hC := reach w (C := fun u => ∃ d, (u, d) ∈ K) ⟨0, l.start⟩ (fun u v ⟨d, hu⟩ hv => let ⟨d', h, _⟩ := l.succ u d v hu hv; ⟨d', h⟩) hp
    obtain ⟨d, hd⟩ := hC
    exact List.mem_map.mpr ⟨_, hd, rfl⟩
  rw [List.length_map] at h1 h2
  omega
end WP
end
section
set_option Elab.async false
set_option linter.all false
set_option maxRecDepth 100000
set_option autoImplicit false
/-! PL13: sums; the defs that list all rows. -/
namespace WP
open PySem PySem.Spec
theorem countP_next (n : Nat) : ∀ l : List Int, (l.countP fun d => decide (0 ≤ d) && decide (d < ((n + 1 : Nat) : Int))) = (l.countP fun d => decide (0 ≤ d) && decide (d < (n : Int))) + l.count (n : Int)
  | [] => rfl
  | x :: l => by
    rw [List.countP_cons, List.countP_cons, List.count_cons, countP_next n l]
    have A : (if (decide (0 ≤ x) && decide (x < ((n + 1 : Nat) : Int))) = true then 1 else 0) = (if (decide (0 ≤ x) && decide (x < (n : Int))) = true then 1 else 0) + (if (x == (n : Int)) = true then 1 else 0) := by
      simp only [Bool.and_eq_true, decide_eq_true_eq, beq_iff_eq]
      split <;> split <;> split <;> omega
    rw [A]; omega
theorem sum_counts (l : List Int) : ∀ n : Nat, ((List.range n).map fun k : Nat => ((l.count (k : Int) : Nat) : Int)).sum = (((l.countP fun d => decide (0 ≤ d) && decide (d < (n : Int))) : Nat) : Int)
  | 0 => by
    have : (l.countP fun d => decide (0 ≤ d) && decide (d < ((0 : Nat) : Int))) = 0 := by
      rw [List.countP_eq_zero]
      intro a _
      simp [eC, eVar, eFrz, bV, bS, aNil, aCons, aStar, eOp, eUn, eB, eM, eCall, eIf, eAnd, eOr, eNot, eChain, eTup, eLst, deref, derefs, valsOf, tB, tAnd, tOr, tNot, tTrue, iSeq, gName, gAll, gTup, ownL, ownT, gAt, eAppend, ePopK, ePopL, eSeqM, sNext, sSeq, sDrop, sRet, sRetN, sIf, sSet, sAsg, sNew, sNever, sFor, sRetOwn, entry, entryM, outOf, wipeE, backE, aPar, putE, sPar, eSl, pNo, pInt, eIsa, isaOf, one, two, way_any, way_near, way_move, way_front, way_ring, way_ff, way_turns]
    rw [this]; rfl
  | n + 1 => by
    rw [List.range_succ, List.map_append, List.sum_append, sum_counts l n, countP_next, Int.natCast_add]; simp [eC, eVar, eFrz, bV, bS, aNil, aCons, aStar, eOp, eUn, eB, eM, eCall, eIf, eAnd, eOr, eNot, eChain, eTup, eLst, deref, derefs, valsOf, tB, tAnd, tOr, tNot, tTrue, iSeq, gName, gAll, gTup, ownL, ownT, gAt, eAppend, ePopK, ePopL, eSeqM, sNext, sSeq, sDrop, sRet, sRetN, sIf, sSet, sAsg, sNew, sNever, sFor, sRetOwn, entry, entryM, outOf, wipeE, backE, aPar, putE, sPar, eSl, pNo, pInt, eIsa, isaOf, one, two, way_any, way_near, way_move, way_front, way_ring, way_ff, way_turns]
theorem sum_spread {l : List Int} (h : ∀ d ∈ l, 0 ≤ d) : (spreadOf l).sum = (l.length : Nat) := by
  unfold spreadOf
  rw [sum_counts]
  congr 1
  rw [List.countP_eq_length]
  intro d hd
  have h0 := h d hd
  have h1 := maxOf_ge hd
  rw [Bool.and_eq_true, decide_eq_true_eq, decide_eq_true_eq]
  omega
theorem sum_row (r : Row) : bSum (rowD r) = some (.int r.sum) := by
  unfold bSum
  rw [list_row, Option.bind_some, intsOf_map]; rfl
def amountsOf (k : Nat) (r : Row) : Row := (List.range k).map fun c : Nat => ((r.count (c : Int) : Nat) : Int)
theorem sum_amounts {k : Nat} {r : Row} (hI : InK k r) : (amountsOf k r).sum = (r.length : Nat) := by
  unfold amountsOf
  rw [sum_counts]
  congr 1
  rw [List.countP_eq_length]
  intro d hd
  obtain ⟨c, hc, rfl⟩ := hI d hd
  rw [Bool.and_eq_true, decide_eq_true_eq, decide_eq_true_eq]
  omega
theorem nth_amounts {k c : Nat} (r : Row) (h : c < k) : opIx (rowD (amountsOf k r)) (.int (c : Nat)) = some (.int (r.count (c : Int) : Nat)) := by
  refine ix_row ?_
  unfold amountsOf
  rw [List.getElem?_map, List.getElem?_range h]; rfl
theorem lawAmounts {k : Nat} (r : Row) (hk : k ≤ 1000) : g__law_amounts [.int (k : Nat), rowD r] = .ok (rowD (amountsOf k r)) := by
  have e := eComp_map (own := [2]) (it := iRange1 (eVar 0)) (g := WP.gName 2) (f := eSeqM mCount (eVar 1) (aCons (bV (eVar 2)) aNil)) (env := [some ⟨.p, .int (k : Nat)⟩, some ⟨.p, rowD r⟩, none]) (env1 := [some ⟨.p, .int (k : Nat)⟩, some ⟨.p, rowD r⟩, none])
    (fun i : Nat => PyData.int (i : Nat)) (fun i : Nat => PyData.int ((r.count (i : Int) : Nat) : Int)) (ys := List.range k) (range1_of (n := k) rfl (by omega)) (by rw [List.length_range]; omega) (fun y hy => ⟨_, _, rfl, by simp [eC, eVar, eFrz, bV, bS, aNil, aCons, aStar, eOp, eUn, eB, eM, eCall, eIf, eAnd, eOr, eNot, eChain, eTup, eLst, deref, derefs, valsOf, tB, tAnd, tOr, tNot, tTrue, iSeq, gName, gAll, gTup, ownL, ownT, gAt, eAppend, ePopK, ePopL, eSeqM, sNext, sSeq, sDrop, sRet, sRetN, sIf, sSet, sAsg, sNew, sNever, sFor, sRetOwn, entry, entryM, outOf, wipeE, backE, aPar, putE, sPar, eSl, pNo, pInt, eIsa, isaOf, one, two, way_any, way_near, way_move, way_front, way_ring, way_ff, way_turns, count_int]; rfl, by simp [eC, eVar, eFrz, bV, bS, aNil, aCons, aStar, eOp, eUn, eB, eM, eCall, eIf, eAnd, eOr, eNot, eChain, eTup, eLst, deref, derefs, valsOf, tB, tAnd, tOr, tNot, tTrue, iSeq, gName, gAll, gTup, ownL, ownT, gAt, eAppend, ePopK, ePopL, eSeqM, sNext, sSeq, sDrop, sRet, sRetN, sIf, sSet, sAsg, sNew, sNever, sFor, sRetOwn, entry, entryM, outOf, wipeE, backE, aPar, putE, sPar, eSl, pNo, pInt, eIsa, isaOf, one, two, way_any, way_near, way_move, way_front, way_ring, way_ff, way_turns]⟩)
  simp only [g__law_amounts, defP, b__law_amounts]
  simp [eC, eVar, eFrz, bV, bS, aNil, aCons, aStar, eOp, eUn, eB, eM, eCall, eIf, eAnd, eOr, eNot, eChain, eTup, eLst, deref, derefs, valsOf, tB, tAnd, tOr, tNot, tTrue, iSeq, gName, gAll, gTup, ownL, ownT, gAt, eAppend, ePopK, ePopL, eSeqM, sNext, sSeq, sDrop, sRet, sRetN, sIf, sSet, sAsg, sNew, sNever, sFor, sRetOwn, entry, entryM, outOf, wipeE, backE, aPar, putE, sPar, eSl, pNo, pInt, eIsa, isaOf, one, two, way_any, way_near, way_move, way_front, way_ring, way_ff, way_turns, e]
  simp [eC, eVar, eFrz, bV, bS, aNil, aCons, aStar, eOp, eUn, eB, eM, eCall, eIf, eAnd, eOr, eNot, eChain, eTup, eLst, deref, derefs, valsOf, tB, tAnd, tOr, tNot, tTrue, iSeq, gName, gAll, gTup, ownL, ownT, gAt, eAppend, ePopK, ePopL, eSeqM, sNext, sSeq, sDrop, sRet, sRetN, sIf, sSet, sAsg, sNew, sNever, sFor, sRetOwn, entry, entryM, outOf, wipeE, backE, aPar, putE, sPar, eSl, pNo, pInt, eIsa, isaOf, one, two, way_any, way_near, way_move, way_front, way_ring, way_ff, way_turns, amountsOf, rowD, List.map_map, Function.comp_def]
theorem isAmounts {k : Nat} {r : Row} (hI : InK k r) (hk : k ≤ 1000) (h1 : 1 ≤ r.length) (h2 : r.length ≤ 7) : g_is_amounts [.int (k : Nat), rowD (amountsOf k r)] = .ok (.bool true) := by
  have ht : g_is_tuple_of [rowD (amountsOf k r), .int (k : Nat)] = .ok (.bool true) := by
    simp [eC, eVar, eFrz, bV, bS, aNil, aCons, aStar, eOp, eUn, eB, eM, eCall, eIf, eAnd, eOr, eNot, eChain, eTup, eLst, deref, derefs, valsOf, tB, tAnd, tOr, tNot, tTrue, iSeq, gName, gAll, gTup, ownL, ownT, gAt, eAppend, ePopK, ePopL, eSeqM, sNext, sSeq, sDrop, sRet, sRetN, sIf, sSet, sAsg, sNew, sNever, sFor, sRetOwn, entry, entryM, outOf, wipeE, backE, aPar, putE, sPar, eSl, pNo, pInt, eIsa, isaOf, one, two, way_any, way_near, way_move, way_front, way_ring, way_ff, way_turns, g_is_tuple_of, defP, b_is_tuple_of]
    simp [eC, eVar, eFrz, bV, bS, aNil, aCons, aStar, eOp, eUn, eB, eM, eCall, eIf, eAnd, eOr, eNot, eChain, eTup, eLst, deref, derefs, valsOf, tB, tAnd, tOr, tNot, tTrue, iSeq, gName, gAll, gTup, ownL, ownT, gAt, eAppend, ePopK, ePopL, eSeqM, sNext, sSeq, sDrop, sRet, sRetN, sIf, sSet, sAsg, sNew, sNever, sFor, sRetOwn, entry, entryM, outOf, wipeE, backE, aPar, putE, sPar, eSl, pNo, pInt, eIsa, isaOf, one, two, way_any, way_near, way_move, way_front, way_ring, way_ff, way_turns, amountsOf]
  have e := eComp_map (own := [2]) (it := iSeq (eVar 1)) (g := WP.gName 2) (f := eCall g_is_between (aCons (bV (eVar 2)) (aCons (bV (eC (.int 0))) (aCons (bV (eC (.int 7))) aNil)))) (env := [some ⟨.p, .int (k : Nat)⟩, some ⟨.p, rowD (amountsOf k r)⟩, none]) (env1 := [some ⟨.p, .int (k : Nat)⟩, some ⟨.p, rowD (amountsOf k r)⟩, none])
    PyData.int (fun x => PyData.bool (decide (0 ≤ x) && decide (x ≤ 7))) (ys := amountsOf k r) (by simp [eC, eVar, eFrz, bV, bS, aNil, aCons, aStar, eOp, eUn, eB, eM, eCall, eIf, eAnd, eOr, eNot, eChain, eTup, eLst, deref, derefs, valsOf, tB, tAnd, tOr, tNot, tTrue, iSeq, gName, gAll, gTup, ownL, ownT, gAt, eAppend, ePopK, ePopL, eSeqM, sNext, sSeq, sDrop, sRet, sRetN, sIf, sSet, sAsg, sNew, sNever, sFor, sRetOwn, entry, entryM, outOf, wipeE, backE, aPar, putE, sPar, eSl, pNo, pInt, eIsa, isaOf, one, two, way_any, way_near, way_move, way_front, way_ring, way_ff, way_turns]) (by simp [eC, eVar, eFrz, bV, bS, aNil, aCons, aStar, eOp, eUn, eB, eM, eCall, eIf, eAnd, eOr, eNot, eChain, eTup, eLst, deref, derefs, valsOf, tB, tAnd, tOr, tNot, tTrue, iSeq, gName, gAll, gTup, ownL, ownT, gAt, eAppend, ePopK, ePopL, eSeqM, sNext, sSeq, sDrop, sRet, sRetN, sIf, sSet, sAsg, sNew, sNever, sFor, sRetOwn, entry, entryM, outOf, wipeE, backE, aPar, putE, sPar, eSl, pNo, pInt, eIsa, isaOf, one, two, way_any, way_near, way_move, way_front, way_ring, way_ff, way_turns, amountsOf]; omega) (fun y hy => ⟨_, _, rfl, by simp [eC, eVar, eFrz, bV, bS, aNil, aCons, aStar, eOp, eUn, eB, eM, eCall, eIf, eAnd, eOr, eNot, eChain, eTup, eLst, deref, derefs, valsOf, tB, tAnd, tOr, tNot, tTrue, iSeq, gName, gAll, gTup, ownL, ownT, gAt, eAppend, ePopK, ePopL, eSeqM, sNext, sSeq, sDrop, sRet, sRetN, sIf, sSet, sAsg, sNew, sNever, sFor, sRetOwn, entry, entryM, outOf, wipeE, backE, aPar, putE, sPar, eSl, pNo, pInt, eIsa, isaOf, one, two, way_any, way_near, way_move, way_front, way_ring, way_ff, way_turns, between_int]; rfl, by simp [eC, eVar, eFrz, bV, bS, aNil, aCons, aStar, eOp, eUn, eB, eM, eCall, eIf, eAnd, eOr, eNot, eChain, eTup, eLst, deref, derefs, valsOf, tB, tAnd, tOr, tNot, tTrue, iSeq, gName, gAll, gTup, ownL, ownT, gAt, eAppend, ePopK, ePopL, eSeqM, sNext, sSeq, sDrop, sRet, sRetN, sIf, sSet, sAsg, sNew, sNever, sFor, sRetOwn, entry, entryM, outOf, wipeE, backE, aPar, putE, sPar, eSl, pNo, pInt, eIsa, isaOf, one, two, way_any, way_near, way_move, way_front, way_ring, way_ff, way_turns]⟩)
  have ha : ((amountsOf k r).all fun x => decide (0 ≤ x) && decide (x ≤ 7)) = true := by
    rw [List.all_eq_true]
    intro x hx
    obtain ⟨c, _, rfl⟩ := List.mem_map.mp hx
    have := List.count_le_length (a := (c : Int)) (l := r)
    rw [Bool.and_eq_true, decide_eq_true_eq, decide_eq_true_eq]
    omega
  have s1 : (1 : Int) ≤ (r.length : Nat) := by omega
  have s2 : ((r.length : Nat) : Int) ≤ 7 := by omega
  simp only [g_is_amounts, defP, b_is_amounts]
  simp [eC, eVar, eFrz, bV, bS, aNil, aCons, aStar, eOp, eUn, eB, eM, eCall, eIf, eAnd, eOr, eNot, eChain, eTup, eLst, deref, derefs, valsOf, tB, tAnd, tOr, tNot, tTrue, iSeq, gName, gAll, gTup, ownL, ownT, gAt, eAppend, ePopK, ePopL, eSeqM, sNext, sSeq, sDrop, sRet, sRetN, sIf, sSet, sAsg, sNew, sNever, sFor, sRetOwn, entry, entryM, outOf, wipeE, backE, aPar, putE, sPar, eSl, pNo, pInt, eIsa, isaOf, one, two, way_any, way_near, way_move, way_front, way_ring, way_ff, way_turns, ht, e, all_map, ha, sum_row, sum_amounts hI, s1, s2]
theorem camounted {k : Nat} {r : Row} (hI : InK k r) (hk : 2 ≤ k) (hk2 : k ≤ 4) (h1 : 1 ≤ r.length) (h2 : r.length ≤ 7) : g_check_amounted [.int (k : Nat), rowD (amountsOf k r)] = .ok .none := by
  have a : g_check_amounts [.int (k : Nat), rowD (amountsOf k r)] = .ok .none := by simp [eC, eVar, eFrz, bV, bS, aNil, aCons, aStar, eOp, eUn, eB, eM, eCall, eIf, eAnd, eOr, eNot, eChain, eTup, eLst, deref, derefs, valsOf, tB, tAnd, tOr, tNot, tTrue, iSeq, gName, gAll, gTup, ownL, ownT, gAt, eAppend, ePopK, ePopL, eSeqM, sNext, sSeq, sDrop, sRet, sRetN, sIf, sSet, sAsg, sNew, sNever, sFor, sRetOwn, entry, entryM, outOf, wipeE, backE, aPar, putE, sPar, eSl, pNo, pInt, eIsa, isaOf, one, two, way_any, way_near, way_move, way_front, way_ring, way_ff, way_turns, g_check_amounts, defP, b_check_amounts, isAmounts hI (by omega) h1 h2]
  simp [eC, eVar, eFrz, bV, bS, aNil, aCons, aStar, eOp, eUn, eB, eM, eCall, eIf, eAnd, eOr, eNot, eChain, eTup, eLst, deref, derefs, valsOf, tB, tAnd, tOr, tNot, tTrue, iSeq, gName, gAll, gTup, ownL, ownT, gAt, eAppend, ePopK, ePopL, eSeqM, sNext, sSeq, sDrop, sRet, sRetN, sIf, sSet, sAsg, sNew, sNever, sFor, sRetOwn, entry, entryM, outOf, wipeE, backE, aPar, putE, sPar, eSl, pNo, pInt, eIsa, isaOf, one, two, way_any, way_near, way_move, way_front, way_ring, way_ff, way_turns, g_check_amounted, defP, b_check_amounted, a, ckinds_int (k := (k : Int)) (by omega) (by omega)]
end WP
end
section
set_option Elab.async false
set_option linter.all false
set_option maxRecDepth 100000
set_option autoImplicit false
/-! PL14: all rows, by the program, by the law. -/
namespace WP
open PySem PySem.Spec
theorem row_len_arr {k m : Nat} {r x : Row} (h : x ∈ rowsN k r m) : x.length = m := ((mem_rowsN k r m x).mp h).1
theorem few_rows {k m : Nat} (r : Row) (hk : k ≤ 4) (hm : m ≤ 7) : (rowsN k r m).length ≤ 16384 := by
  refine Nat.le_trans (rowsN_len k r m) ?_
  have h1 : k ^ m ≤ 4 ^ m := Nat.pow_le_pow_left hk _
  have h2 : 4 ^ m ≤ 4 ^ 7 := Nat.pow_le_pow_right (by decide) hm
  have h3 : 4 ^ 7 = 16384 := by decide
  omega
def rowsComp : EF := eComp2 [4, 5] [5] (iSeq (eVar 2)) (WP.gName 4) (tTrue) (iRange1 (eVar 0)) (WP.gName 5) (WP.tB (eOp opLt (bV (eSeqM mCount (eVar 4) (aCons (bV (eVar 5)) (aNil)))) (bV (eOp opIx (bV (eVar 1)) (bV (eVar 5)))))) (eTup (aStar (bV (eVar 4)) (aCons (bV (eVar 5)) (aNil))))
theorem rows_comp {k m : Nat} {r : Row} {t : Option Sl} (hk : k ≤ 4) (hm : m + 1 ≤ 7) : rowsComp [some ⟨.p, .int (k : Nat)⟩, some ⟨.p, rowD (amountsOf k r)⟩, some ⟨.p, rowsD (rowsN k r m)⟩, t, none, none] =
    .ok (rowsD (rowsN k r (m + 1)), [some ⟨.p, .int (k : Nat)⟩, some ⟨.p, rowD (amountsOf k r)⟩, some ⟨.p, rowsD (rowsN k r m)⟩, t, none, none]) := by
  have la : ((rowsN k r m).filter fun _ => true).flatMap (fun x => ((List.range k).filter fun c : Nat => decide (x.count (c : Int) < r.count (c : Int))).map fun c : Nat => rowD (x ++ [(c : Int)])) = (rowsN k r (m + 1)).map rowD := by
    rw [List.filter_eq_self.mpr (fun _ _ => rfl)]
    show _ = ((rowsN k r m).flatMap (stepRows k r)).map rowD
    rw [List.map_flatMap]
    unfold stepRows
    simp [eC, eVar, eFrz, bV, bS, aNil, aCons, aStar, eOp, eUn, eB, eM, eCall, eIf, eAnd, eOr, eNot, eChain, eTup, eLst, deref, derefs, valsOf, tB, tAnd, tOr, tNot, tTrue, iSeq, gName, gAll, gTup, ownL, ownT, gAt, eAppend, ePopK, ePopL, eSeqM, sNext, sSeq, sDrop, sRet, sRetN, sIf, sSet, sAsg, sNew, sNever, sFor, sRetOwn, entry, entryM, outOf, wipeE, backE, aPar, putE, sPar, eSl, pNo, pInt, eIsa, isaOf, one, two, way_any, way_near, way_move, way_front, way_ring, way_ff, way_turns, List.map_map, Function.comp_def]
  have e := eComp2_pure (own := [4, 5]) (own2 := [5]) (it := iSeq (eVar 2)) (g := WP.gName 4) (t := tTrue) (it2 := iRange1 (eVar 0)) (g2 := WP.gName 5) (t2 := WP.tB (eOp opLt (bV (eSeqM mCount (eVar 4) (aCons (bV (eVar 5)) (aNil)))) (bV (eOp opIx (bV (eVar 1)) (bV (eVar 5))))))
    (f := eTup (aStar (bV (eVar 4)) (aCons (bV (eVar 5)) (aNil)))) (env := [some ⟨.p, .int (k : Nat)⟩, some ⟨.p, rowD (amountsOf k r)⟩, some ⟨.p, rowsD (rowsN k r m)⟩, t, none, none]) (env1 := [some ⟨.p, .int (k : Nat)⟩, some ⟨.p, rowD (amountsOf k r)⟩, some ⟨.p, rowsD (rowsN k r m)⟩, t, none, none])
    rowD (fun i : Nat => PyData.int (i : Nat)) (fun _ => true) (fun _ => List.range k) (fun x c => decide (x.count (c : Int) < r.count (c : Int))) (fun x c => rowD (x ++ [(c : Int)])) (ys := rowsN k r m) (by simp [eC, eVar, eFrz, bV, bS, aNil, aCons, aStar, eOp, eUn, eB, eM, eCall, eIf, eAnd, eOr, eNot, eChain, eTup, eLst, deref, derefs, valsOf, tB, tAnd, tOr, tNot, tTrue, iSeq, gName, gAll, gTup, ownL, ownT, gAt, eAppend, ePopK, ePopL, eSeqM, sNext, sSeq, sDrop, sRet, sRetN, sIf, sSet, sAsg, sNew, sNever, sFor, sRetOwn, entry, entryM, outOf, wipeE, backE, aPar, putE, sPar, eSl, pNo, pInt, eIsa, isaOf, one, two, way_any, way_near, way_move, way_front, way_ring, way_ff, way_turns, rowsD]) (by
      rw [la, List.length_map]
      have := few_rows r hk hm
      omega)
    (fun x hx => ⟨_, _, rfl, rfl, (fun z => by cases z), fun _ => ⟨_, range1_of (n := k) rfl (by omega), by simp [eC, eVar, eFrz, bV, bS, aNil, aCons, aStar, eOp, eUn, eB, eM, eCall, eIf, eAnd, eOr, eNot, eChain, eTup, eLst, deref, derefs, valsOf, tB, tAnd, tOr, tNot, tTrue, iSeq, gName, gAll, gTup, ownL, ownT, gAt, eAppend, ePopK, ePopL, eSeqM, sNext, sSeq, sDrop, sRet, sRetN, sIf, sSet, sAsg, sNew, sNever, sFor, sRetOwn, entry, entryM, outOf, wipeE, backE, aPar, putE, sPar, eSl, pNo, pInt, eIsa, isaOf, one, two, way_any, way_near, way_move, way_front, way_ring, way_ff, way_turns], fun c hc => by
      have hck := List.mem_range.mp hc
      have hl := row_len_arr hx
      refine ⟨_, [some ⟨.p, .int (k : Nat)⟩, some ⟨.p, rowD (amountsOf k r)⟩, some ⟨.p, rowsD (rowsN k r m)⟩, t, some ⟨.p, rowD x⟩, some ⟨.p, .int (c : Nat)⟩], rfl, ?_, fun _ => ⟨[some ⟨.p, .int (k : Nat)⟩, some ⟨.p, rowD (amountsOf k r)⟩, some ⟨.p, rowsD (rowsN k r m)⟩, t, some ⟨.p, rowD x⟩, some ⟨.p, .int (c : Nat)⟩], ?_, by simp [eC, eVar, eFrz, bV, bS, aNil, aCons, aStar, eOp, eUn, eB, eM, eCall, eIf, eAnd, eOr, eNot, eChain, eTup, eLst, deref, derefs, valsOf, tB, tAnd, tOr, tNot, tTrue, iSeq, gName, gAll, gTup, ownL, ownT, gAt, eAppend, ePopK, ePopL, eSeqM, sNext, sSeq, sDrop, sRet, sRetN, sIf, sSet, sAsg, sNew, sNever, sFor, sRetOwn, entry, entryM, outOf, wipeE, backE, aPar, putE, sPar, eSl, pNo, pInt, eIsa, isaOf, one, two, way_any, way_near, way_move, way_front, way_ring, way_ff, way_turns]⟩, fun _ => by simp [eC, eVar, eFrz, bV, bS, aNil, aCons, aStar, eOp, eUn, eB, eM, eCall, eIf, eAnd, eOr, eNot, eChain, eTup, eLst, deref, derefs, valsOf, tB, tAnd, tOr, tNot, tTrue, iSeq, gName, gAll, gTup, ownL, ownT, gAt, eAppend, ePopK, ePopL, eSeqM, sNext, sSeq, sDrop, sRet, sRetN, sIf, sSet, sAsg, sNew, sNever, sFor, sRetOwn, entry, entryM, outOf, wipeE, backE, aPar, putE, sPar, eSl, pNo, pInt, eIsa, isaOf, one, two, way_any, way_near, way_move, way_front, way_ring, way_ff, way_turns]⟩
      · simp [eC, eVar, eFrz, bV, bS, aNil, aCons, aStar, eOp, eUn, eB, eM, eCall, eIf, eAnd, eOr, eNot, eChain, eTup, eLst, deref, derefs, valsOf, tB, tAnd, tOr, tNot, tTrue, iSeq, gName, gAll, gTup, ownL, ownT, gAt, eAppend, ePopK, ePopL, eSeqM, sNext, sSeq, sDrop, sRet, sRetN, sIf, sSet, sAsg, sNew, sNever, sFor, sRetOwn, entry, entryM, outOf, wipeE, backE, aPar, putE, sPar, eSl, pNo, pInt, eIsa, isaOf, one, two, way_any, way_near, way_move, way_front, way_ring, way_ff, way_turns, count_int, nth_amounts r hck]
      · have z : (x.map PyData.int ++ [PyData.int (c : Nat)]).length ≤ 16777216 := by rw [List.length_append, List.length_map, List.length_singleton]; omega
        have z' : List.length x + 1 ≤ 16777216 := by omega
        simp [eC, eVar, eFrz, bV, bS, aNil, aCons, aStar, eOp, eUn, eB, eM, eCall, eIf, eAnd, eOr, eNot, eChain, eTup, eLst, deref, derefs, valsOf, tB, tAnd, tOr, tNot, tTrue, iSeq, gName, gAll, gTup, ownL, ownT, gAt, eAppend, ePopK, ePopL, eSeqM, sNext, sSeq, sDrop, sRet, sRetN, sIf, sSet, sAsg, sNew, sNever, sFor, sRetOwn, entry, entryM, outOf, wipeE, backE, aPar, putE, sPar, eSl, pNo, pInt, eIsa, isaOf, one, two, way_any, way_near, way_move, way_front, way_ring, way_ff, way_turns, z']
        simp [eC, eVar, eFrz, bV, bS, aNil, aCons, aStar, eOp, eUn, eB, eM, eCall, eIf, eAnd, eOr, eNot, eChain, eTup, eLst, deref, derefs, valsOf, tB, tAnd, tOr, tNot, tTrue, iSeq, gName, gAll, gTup, ownL, ownT, gAt, eAppend, ePopK, ePopL, eSeqM, sNext, sSeq, sDrop, sRet, sRetN, sIf, sSet, sAsg, sNew, sNever, sFor, sRetOwn, entry, entryM, outOf, wipeE, backE, aPar, putE, sPar, eSl, pNo, pInt, eIsa, isaOf, one, two, way_any, way_near, way_move, way_front, way_ring, way_ff, way_turns, rowD]⟩⟩)
  rw [la] at e
  unfold rowsComp
  rw [e]
  simp [eC, eVar, eFrz, bV, bS, aNil, aCons, aStar, eOp, eUn, eB, eM, eCall, eIf, eAnd, eOr, eNot, eChain, eTup, eLst, deref, derefs, valsOf, tB, tAnd, tOr, tNot, tTrue, iSeq, gName, gAll, gTup, ownL, ownT, gAt, eAppend, ePopK, ePopL, eSeqM, sNext, sSeq, sDrop, sRet, sRetN, sIf, sSet, sAsg, sNew, sNever, sFor, sRetOwn, entry, entryM, outOf, wipeE, backE, aPar, putE, sPar, eSl, pNo, pInt, eIsa, isaOf, one, two, way_any, way_near, way_move, way_front, way_ring, way_ff, way_turns, rowsD]
theorem rows_by {k : Nat} {r : Row} (hI : InK k r) (hk : k ≤ 4) (hr : r.length ≤ 7) : g_rows_by [.int (k : Nat), rowD (amountsOf k r)] = .ok (rowsD (arr k r)) := by
  have h : ∃ e', sFor [3] (iRange1 (eB (one bSum) (aCons (bV (eVar 1)) (aNil)))) (WP.gName 3) (sSet 2 rowsComp) [some ⟨.p, .int (k : Nat)⟩, some ⟨.p, rowD (amountsOf k r)⟩, some ⟨.p, rowsD [[]]⟩, none, none, none] = .ok (.nx, e') ∧
      e' = [some ⟨.p, .int (k : Nat)⟩, some ⟨.p, rowD (amountsOf k r)⟩, some ⟨.p, rowsD (rowsN k r (List.range r.length).length)⟩, none, none, none] := by
    refine sFor_inv (fun i : Nat => PyData.int (i : Nat)) (fun ds e => e = [some ⟨.p, .int (k : Nat)⟩, some ⟨.p, rowD (amountsOf k r)⟩, some ⟨.p, rowsD (rowsN k r ds.length)⟩, none, none, none]) (ys := List.range r.length) (range1_of (n := r.length) (by simp [eC, eVar, eFrz, bV, bS, aNil, aCons, aStar, eOp, eUn, eB, eM, eCall, eIf, eAnd, eOr, eNot, eChain, eTup, eLst, deref, derefs, valsOf, tB, tAnd, tOr, tNot, tTrue, iSeq, gName, gAll, gTup, ownL, ownT, gAt, eAppend, ePopK, ePopL, eSeqM, sNext, sSeq, sDrop, sRet, sRetN, sIf, sSet, sAsg, sNew, sNever, sFor, sRetOwn, entry, entryM, outOf, wipeE, backE, aPar, putE, sPar, eSl, pNo, pInt, eIsa, isaOf, one, two, way_any, way_near, way_move, way_front, way_ring, way_ff, way_turns, sum_row, sum_amounts hI]; rfl) (by omega)) rfl ?_
    rintro ds y rr e hd rfl
    obtain ⟨hy, hdl⟩ := range_mem hd
    have c := rows_comp (t := some ⟨.p, .int (y : Nat)⟩) (r := r) (m := ds.length) hk (by omega)
    refine ⟨_, [some ⟨.p, .int (k : Nat)⟩, some ⟨.p, rowD (amountsOf k r)⟩, some ⟨.p, rowsD (rowsN k r (ds.length + 1))⟩, some ⟨.p, .int (y : Nat)⟩, none, none], rfl, ?_, ?_⟩
    · simp [eC, eVar, eFrz, bV, bS, aNil, aCons, aStar, eOp, eUn, eB, eM, eCall, eIf, eAnd, eOr, eNot, eChain, eTup, eLst, deref, derefs, valsOf, tB, tAnd, tOr, tNot, tTrue, iSeq, gName, gAll, gTup, ownL, ownT, gAt, eAppend, ePopK, ePopL, eSeqM, sNext, sSeq, sDrop, sRet, sRetN, sIf, sSet, sAsg, sNew, sNever, sFor, sRetOwn, entry, entryM, outOf, wipeE, backE, aPar, putE, sPar, eSl, pNo, pInt, eIsa, isaOf, one, two, way_any, way_near, way_move, way_front, way_ring, way_ff, way_turns, c]
    · simp [eC, eVar, eFrz, bV, bS, aNil, aCons, aStar, eOp, eUn, eB, eM, eCall, eIf, eAnd, eOr, eNot, eChain, eTup, eLst, deref, derefs, valsOf, tB, tAnd, tOr, tNot, tTrue, iSeq, gName, gAll, gTup, ownL, ownT, gAt, eAppend, ePopK, ePopL, eSeqM, sNext, sSeq, sDrop, sRet, sRetN, sIf, sSet, sAsg, sNew, sNever, sFor, sRetOwn, entry, entryM, outOf, wipeE, backE, aPar, putE, sPar, eSl, pNo, pInt, eIsa, isaOf, one, two, way_any, way_near, way_move, way_front, way_ring, way_ff, way_turns]
  obtain ⟨e', h1, rfl⟩ := h
  have hp : sSet 2 (eLst (aCons (bV (eTup aNil)) aNil)) [some ⟨.p, .int (k : Nat)⟩, some ⟨.p, rowD (amountsOf k r)⟩, none, none, none, none] = .ok (.nx, [some ⟨.p, .int (k : Nat)⟩, some ⟨.p, rowD (amountsOf k r)⟩, some ⟨.p, rowsD [[]]⟩, none, none, none]) := by
    simp [eC, eVar, eFrz, bV, bS, aNil, aCons, aStar, eOp, eUn, eB, eM, eCall, eIf, eAnd, eOr, eNot, eChain, eTup, eLst, deref, derefs, valsOf, tB, tAnd, tOr, tNot, tTrue, iSeq, gName, gAll, gTup, ownL, ownT, gAt, eAppend, ePopK, ePopL, eSeqM, sNext, sSeq, sDrop, sRet, sRetN, sIf, sSet, sAsg, sNew, sNever, sFor, sRetOwn, entry, entryM, outOf, wipeE, backE, aPar, putE, sPar, eSl, pNo, pInt, eIsa, isaOf, one, two, way_any, way_near, way_move, way_front, way_ring, way_ff, way_turns, rowsD, rowD]
  simp only [g_rows_by, defP, b_rows_by]
  rw [if_pos ⟨rfl, by omega⟩]
  show outOf (sSeq _ (sSeq (sFor [3] (iRange1 (eB (one bSum) (aCons (bV (eVar 1)) (aNil)))) (WP.gName 3) (sSet 2 rowsComp)) _) [some ⟨.p, .int (k : Nat)⟩, some ⟨.p, rowD (amountsOf k r)⟩, none, none, none, none]) = _
  rw [seq_nx hp, seq_nx h1]
  simp [eC, eVar, eFrz, bV, bS, aNil, aCons, aStar, eOp, eUn, eB, eM, eCall, eIf, eAnd, eOr, eNot, eChain, eTup, eLst, deref, derefs, valsOf, tB, tAnd, tOr, tNot, tTrue, iSeq, gName, gAll, gTup, ownL, ownT, gAt, eAppend, ePopK, ePopL, eSeqM, sNext, sSeq, sDrop, sRet, sRetN, sIf, sSet, sAsg, sNew, sNever, sFor, sRetOwn, entry, entryM, outOf, wipeE, backE, aPar, putE, sPar, eSl, pNo, pInt, eIsa, isaOf, one, two, way_any, way_near, way_move, way_front, way_ring, way_ff, way_turns, arr]
theorem allRows_way {k : Nat} {r : Row} (hI : InK k r) (hk : 2 ≤ k) (hk2 : k ≤ 4) (h1 : 1 ≤ r.length) (h2 : r.length ≤ 7) : g_all_rows [.int (k : Nat), rowD (amountsOf k r)] = .ok (.tuple ((arr k r).map rowD)) := by
  have hb : bTuple (rowsD (arr k r)) = some (.tuple ((arr k r).map rowD)) := rfl
  simp [eC, eVar, eFrz, bV, bS, aNil, aCons, aStar, eOp, eUn, eB, eM, eCall, eIf, eAnd, eOr, eNot, eChain, eTup, eLst, deref, derefs, valsOf, tB, tAnd, tOr, tNot, tTrue, iSeq, gName, gAll, gTup, ownL, ownT, gAt, eAppend, ePopK, ePopL, eSeqM, sNext, sSeq, sDrop, sRet, sRetN, sIf, sSet, sAsg, sNew, sNever, sFor, sRetOwn, entry, entryM, outOf, wipeE, backE, aPar, putE, sPar, eSl, pNo, pInt, eIsa, isaOf, one, two, way_any, way_near, way_move, way_front, way_ring, way_ff, way_turns, g_all_rows, defP, b_all_rows, camounted hI hk hk2 h1 h2, rows_by hI hk2 h2, hb]
/-! ### the law's -/
theorem uniq_range {k : Nat} {r x : Row} (hI : InK k r) : (uniqS r).filter (fun c => decide (x.count c < r.count c)) = ((List.range k).filter fun c : Nat => decide (x.count (c : Int) < r.count (c : Int))).map fun c : Nat => (c : Int) := by
  refine lt_ext ((sort_uniqS r).filter _) ?_ fun c => ?_
  · rw [List.pairwise_map]
    refine List.Pairwise.imp ?_ (List.pairwise_lt_range.filter _)
    intro a b h; omega
  · rw [List.mem_filter, mem_uniqS, List.mem_map, decide_eq_true_eq]
    constructor
    · rintro ⟨h1, h2⟩
      obtain ⟨d, hd, rfl⟩ := hI c h1
      exact ⟨d, List.mem_filter.mpr ⟨List.mem_range.mpr hd, decide_eq_true h2⟩, rfl⟩
    · rintro ⟨d, hd, rfl⟩
      have h := of_decide_eq_true (List.mem_filter.mp hd).2
      exact ⟨List.count_pos_iff.mp (by omega), h⟩
def L3 (r : Row) (f : List Row) (p : Option Sl) (l : List Row) (s : Option Sl) : Env := [some ⟨.p, rowD r⟩, some ⟨.p, rowsD f⟩, p, some ⟨.p, rowsD l⟩, s, none]
def lawComp : EF := eComp [5] (iSeq (eSortSet (eVar 0))) (WP.gName 5) (WP.tB (eOp opLt (bV (eSeqM mCount (eVar 4) (aCons (bV (eVar 5)) (aNil)))) (bV (eSeqM mCount (eVar 0) (aCons (bV (eVar 5)) (aNil)))))) (eOp opAdd (bV (eVar 4)) (bV (eTup (aCons (bV (eVar 5)) (aNil)))))
theorem uniq_len : ∀ r : Row, (uniqS r).length ≤ r.length
  | r => len_le (uniqS r) r (by
      rw [List.nodup_iff_pairwise_ne]
      exact (sort_uniqS r).imp fun h e => by rw [e] at h; exact absurd h (Int.lt_irrefl _)) fun x hx => (mem_uniqS x r).mp hx
theorem law_comp {k : Nat} {r x : Row} {f l : List Row} {p : Option Sl} (hI : InK k r) (hr : r.length ≤ 7) (hx : x.length ≤ 1000) : lawComp (L3 r f p l (some ⟨.p, rowD x⟩)) = .ok (rowsD (stepRows k r x), L3 r f p l (some ⟨.p, rowD x⟩)) := by
  have sz := uniq_len r
  have e := eComp_pure (own := [5]) (it := iSeq (eSortSet (eVar 0))) (g := WP.gName 5) (t := WP.tB (eOp opLt (bV (eSeqM mCount (eVar 4) (aCons (bV (eVar 5)) (aNil)))) (bV (eSeqM mCount (eVar 0) (aCons (bV (eVar 5)) (aNil)))))) (f := eOp opAdd (bV (eVar 4)) (bV (eTup (aCons (bV (eVar 5)) (aNil)))))
    (env := L3 r f p l (some ⟨.p, rowD x⟩)) (env1 := L3 r f p l (some ⟨.p, rowD x⟩)) PyData.int (fun c => decide (x.count c < r.count c)) (fun c => rowD (x ++ [c])) (ys := uniqS r) (by
      have hl : r.length < 60 := by omega
      have hv : eVar 0 (L3 r f p l (some ⟨.p, rowD x⟩)) = .ok (rowD r, L3 r f p l (some ⟨.p, rowD x⟩)) := rfl
      have hss : eSortSet (eVar 0) (L3 r f p l (some ⟨.p, rowD x⟩)) = .ok (.list ((uniqS r).map .int), L3 r f p l (some ⟨.p, rowD x⟩)) := by
        unfold eSortSet
        rw [hv, ok_bind]
        show (opt (intsOf (r.map .int))).bind _ = _
        rw [intsOf_map, opt_some, ok_bind, if_pos hl]
      simp [eC, eVar, eFrz, bV, bS, aNil, aCons, aStar, eOp, eUn, eB, eM, eCall, eIf, eAnd, eOr, eNot, eChain, eTup, eLst, deref, derefs, valsOf, tB, tAnd, tOr, tNot, tTrue, iSeq, gName, gAll, gTup, ownL, ownT, gAt, eAppend, ePopK, ePopL, eSeqM, sNext, sSeq, sDrop, sRet, sRetN, sIf, sSet, sAsg, sNew, sNever, sFor, sRetOwn, entry, entryM, outOf, wipeE, backE, aPar, putE, sPar, eSl, pNo, pInt, eIsa, isaOf, one, two, way_any, way_near, way_move, way_front, way_ring, way_ff, way_turns, hss]) (by omega)
    (fun c hc => ⟨_, [some ⟨.p, rowD r⟩, some ⟨.p, rowsD f⟩, p, some ⟨.p, rowsD l⟩, some ⟨.p, rowD x⟩, some ⟨.p, .int c⟩], rfl, by simp [eC, eVar, eFrz, bV, bS, aNil, aCons, aStar, eOp, eUn, eB, eM, eCall, eIf, eAnd, eOr, eNot, eChain, eTup, eLst, deref, derefs, valsOf, tB, tAnd, tOr, tNot, tTrue, iSeq, gName, gAll, gTup, ownL, ownT, gAt, eAppend, ePopK, ePopL, eSeqM, sNext, sSeq, sDrop, sRet, sRetN, sIf, sSet, sAsg, sNew, sNever, sFor, sRetOwn, entry, entryM, outOf, wipeE, backE, aPar, putE, sPar, eSl, pNo, pInt, eIsa, isaOf, one, two, way_any, way_near, way_move, way_front, way_ring, way_ff, way_turns, L3, count_int], fun _ => ⟨[some ⟨.p, rowD r⟩, some ⟨.p, rowsD f⟩, p, some ⟨.p, rowsD l⟩, some ⟨.p, rowD x⟩, some ⟨.p, .int c⟩], by
      have := add_row (a := x) (b := [c]) (by rw [List.length_singleton]; omega)
      simp [eC, eVar, eFrz, bV, bS, aNil, aCons, aStar, eOp, eUn, eB, eM, eCall, eIf, eAnd, eOr, eNot, eChain, eTup, eLst, deref, derefs, valsOf, tB, tAnd, tOr, tNot, tTrue, iSeq, gName, gAll, gTup, ownL, ownT, gAt, eAppend, ePopK, ePopL, eSeqM, sNext, sSeq, sDrop, sRet, sRetN, sIf, sSet, sAsg, sNew, sNever, sFor, sRetOwn, entry, entryM, outOf, wipeE, backE, aPar, putE, sPar, eSl, pNo, pInt, eIsa, isaOf, one, two, way_any, way_near, way_move, way_front, way_ring, way_ff, way_turns, tup1, this], by simp [eC, eVar, eFrz, bV, bS, aNil, aCons, aStar, eOp, eUn, eB, eM, eCall, eIf, eAnd, eOr, eNot, eChain, eTup, eLst, deref, derefs, valsOf, tB, tAnd, tOr, tNot, tTrue, iSeq, gName, gAll, gTup, ownL, ownT, gAt, eAppend, ePopK, ePopL, eSeqM, sNext, sSeq, sDrop, sRet, sRetN, sIf, sSet, sAsg, sNew, sNever, sFor, sRetOwn, entry, entryM, outOf, wipeE, backE, aPar, putE, sPar, eSl, pNo, pInt, eIsa, isaOf, one, two, way_any, way_near, way_move, way_front, way_ring, way_ff, way_turns, L3]⟩, fun _ => by simp [eC, eVar, eFrz, bV, bS, aNil, aCons, aStar, eOp, eUn, eB, eM, eCall, eIf, eAnd, eOr, eNot, eChain, eTup, eLst, deref, derefs, valsOf, tB, tAnd, tOr, tNot, tTrue, iSeq, gName, gAll, gTup, ownL, ownT, gAt, eAppend, ePopK, ePopL, eSeqM, sNext, sSeq, sDrop, sRet, sRetN, sIf, sSet, sAsg, sNew, sNever, sFor, sRetOwn, entry, entryM, outOf, wipeE, backE, aPar, putE, sPar, eSl, pNo, pInt, eIsa, isaOf, one, two, way_any, way_near, way_move, way_front, way_ring, way_ff, way_turns, L3]⟩)
  unfold lawComp
  rw [e, show ((uniqS r).filter fun c => decide (x.count c < r.count c)).map (fun c => rowD (x ++ [c])) = (stepRows k r x).map rowD by rw [uniq_range hI]; unfold stepRows; simp [eC, eVar, eFrz, bV, bS, aNil, aCons, aStar, eOp, eUn, eB, eM, eCall, eIf, eAnd, eOr, eNot, eChain, eTup, eLst, deref, derefs, valsOf, tB, tAnd, tOr, tNot, tTrue, iSeq, gName, gAll, gTup, ownL, ownT, gAt, eAppend, ePopK, ePopL, eSeqM, sNext, sSeq, sDrop, sRet, sRetN, sIf, sSet, sAsg, sNew, sNever, sFor, sRetOwn, entry, entryM, outOf, wipeE, backE, aPar, putE, sPar, eSl, pNo, pInt, eIsa, isaOf, one, two, way_any, way_near, way_move, way_front, way_ring, way_ff, way_turns, List.map_map, Function.comp_def]]
  simp [eC, eVar, eFrz, bV, bS, aNil, aCons, aStar, eOp, eUn, eB, eM, eCall, eIf, eAnd, eOr, eNot, eChain, eTup, eLst, deref, derefs, valsOf, tB, tAnd, tOr, tNot, tTrue, iSeq, gName, gAll, gTup, ownL, ownT, gAt, eAppend, ePopK, ePopL, eSeqM, sNext, sSeq, sDrop, sRet, sRetN, sIf, sSet, sAsg, sNew, sNever, sFor, sRetOwn, entry, entryM, outOf, wipeE, backE, aPar, putE, sPar, eSl, pNo, pInt, eIsa, isaOf, one, two, way_any, way_near, way_move, way_front, way_ring, way_ff, way_turns, L3, rowsD]
theorem add_rows {a b : List Row} (h : a.length + b.length ≤ 16777216) : opAdd (rowsD a) (rowsD b) = some (rowsD (a ++ b)) := by
  have h' : (a.map rowD).length + (b.map rowD).length ≤ line := by rw [List.length_map, List.length_map]; exact h
  simp only [opAdd, rowsD]
  rw [if_pos h', List.map_append]
theorem law_rows {k : Nat} {r : Row} (hI : InK k r) (hk : k ≤ 4) (hr : r.length ≤ 7) : g__law_all_rows [rowD r] = .ok (rowsD (arr k r)) := by
  have inner : ∀ (m : Nat) (p : Option Sl), m + 1 ≤ 7 → ∃ e', sFor [4] (iSeq (eVar 1)) (WP.gName 4) (sSet 3 (eOp opAdd (bV (eVar 3)) (bV lawComp))) (L3 r (rowsN k r m) p [] none) = .ok (.nx, e') ∧ e' = L3 r (rowsN k r m) p (rowsN k r (m + 1)) none := by
    intro m p hm
    refine sFor_inv rowD (fun ds e => e = L3 r (rowsN k r m) p (ds.flatMap (stepRows k r)) none) (ys := rowsN k r m) (by simp [eC, eVar, eFrz, bV, bS, aNil, aCons, aStar, eOp, eUn, eB, eM, eCall, eIf, eAnd, eOr, eNot, eChain, eTup, eLst, deref, derefs, valsOf, tB, tAnd, tOr, tNot, tTrue, iSeq, gName, gAll, gTup, ownL, ownT, gAt, eAppend, ePopK, ePopL, eSeqM, sNext, sSeq, sDrop, sRet, sRetN, sIf, sSet, sAsg, sNew, sNever, sFor, sRetOwn, entry, entryM, outOf, wipeE, backE, aPar, putE, sPar, eSl, pNo, pInt, eIsa, isaOf, one, two, way_any, way_near, way_move, way_front, way_ring, way_ff, way_turns, L3, rowsD]) rfl ?_
    rintro ds x rest e hd rfl
    have hx : x ∈ rowsN k r m := by rw [← hd]; exact List.mem_append_right _ List.mem_cons_self
    have c := law_comp (k := k) (f := rowsN k r m) (p := p) (l := ds.flatMap (stepRows k r)) (x := x) hI hr (by have := row_len_arr hx; omega)
    have z1 : (ds.flatMap (stepRows k r)).length + (stepRows k r x).length ≤ 16777216 := by
      have a := few_rows r hk hm
      have b : rowsN k r (m + 1) = ds.flatMap (stepRows k r) ++ (stepRows k r x ++ rest.flatMap (stepRows k r)) := by
        show (rowsN k r m).flatMap (stepRows k r) = _
        rw [← hd, List.flatMap_append, List.flatMap_cons]
      rw [b, List.length_append, List.length_append] at a
      omega
    refine ⟨_, L3 r (rowsN k r m) p ((ds ++ [x]).flatMap (stepRows k r)) (some ⟨.p, rowD x⟩), rfl, ?_, by simp [eC, eVar, eFrz, bV, bS, aNil, aCons, aStar, eOp, eUn, eB, eM, eCall, eIf, eAnd, eOr, eNot, eChain, eTup, eLst, deref, derefs, valsOf, tB, tAnd, tOr, tNot, tTrue, iSeq, gName, gAll, gTup, ownL, ownT, gAt, eAppend, ePopK, ePopL, eSeqM, sNext, sSeq, sDrop, sRet, sRetN, sIf, sSet, sAsg, sNew, sNever, sFor, sRetOwn, entry, entryM, outOf, wipeE, backE, aPar, putE, sPar, eSl, pNo, pInt, eIsa, isaOf, one, two, way_any, way_near, way_move, way_front, way_ring, way_ff, way_turns, L3]⟩
    have hv : eVar 3 (L3 r (rowsN k r m) p (ds.flatMap (stepRows k r)) (some ⟨.p, rowD x⟩)) = .ok (rowsD (ds.flatMap (stepRows k r)), L3 r (rowsN k r m) p (ds.flatMap (stepRows k r)) (some ⟨.p, rowD x⟩)) := rfl
    show sSet 3 _ (L3 r (rowsN k r m) p (ds.flatMap (stepRows k r)) (some ⟨.p, rowD x⟩)) = _
    unfold sSet eOp bV
    rw [hv]
    simp only [ok_bind, c, deref, add_rows z1, opt_some]
    simp [eC, eVar, eFrz, bV, bS, aNil, aCons, aStar, eOp, eUn, eB, eM, eCall, eIf, eAnd, eOr, eNot, eChain, eTup, eLst, deref, derefs, valsOf, tB, tAnd, tOr, tNot, tTrue, iSeq, gName, gAll, gTup, ownL, ownT, gAt, eAppend, ePopK, ePopL, eSeqM, sNext, sSeq, sDrop, sRet, sRetN, sIf, sSet, sAsg, sNew, sNever, sFor, sRetOwn, entry, entryM, outOf, wipeE, backE, aPar, putE, sPar, eSl, pNo, pInt, eIsa, isaOf, one, two, way_any, way_near, way_move, way_front, way_ring, way_ff, way_turns, L3]
  have outer : ∃ e', sFor [2, 3] (iRange1 (eB (one bLen) (aCons (bV (eVar 0)) (aNil)))) (WP.gName 2) (sSeq (sSet 3 (eLst (aNil))) (sSeq (sFor [4] (iSeq (eVar 1)) (WP.gName 4) (sSet 3 (eOp opAdd (bV (eVar 3)) (bV lawComp)))) (sSet 1 (eVar 3)))) [some ⟨.p, rowD r⟩, some ⟨.p, rowsD [[]]⟩, none, none, none, none] = .ok (.nx, e') ∧
      e' = [some ⟨.p, rowD r⟩, some ⟨.p, rowsD (rowsN k r (List.range r.length).length)⟩, none, none, none, none] := by
    refine sFor_inv (fun i : Nat => PyData.int (i : Nat)) (fun ds e => e = [some ⟨.p, rowD r⟩, some ⟨.p, rowsD (rowsN k r ds.length)⟩, none, none, none, none]) (ys := List.range r.length) (range1_of (n := r.length) (by simp [eC, eVar, eFrz, bV, bS, aNil, aCons, aStar, eOp, eUn, eB, eM, eCall, eIf, eAnd, eOr, eNot, eChain, eTup, eLst, deref, derefs, valsOf, tB, tAnd, tOr, tNot, tTrue, iSeq, gName, gAll, gTup, ownL, ownT, gAt, eAppend, ePopK, ePopL, eSeqM, sNext, sSeq, sDrop, sRet, sRetN, sIf, sSet, sAsg, sNew, sNever, sFor, sRetOwn, entry, entryM, outOf, wipeE, backE, aPar, putE, sPar, eSl, pNo, pInt, eIsa, isaOf, one, two, way_any, way_near, way_move, way_front, way_ring, way_ff, way_turns]; rfl) (by omega)) rfl ?_
    rintro ds y rr e hd rfl
    obtain ⟨hy, hdl⟩ := range_mem hd
    obtain ⟨e', h1, rfl⟩ := inner ds.length (some ⟨.p, .int (y : Nat)⟩) (by omega)
    refine ⟨_, L3 r (rowsN k r (ds.length + 1)) (some ⟨.p, .int (y : Nat)⟩) (rowsN k r (ds.length + 1)) none, rfl, ?_, by simp [eC, eVar, eFrz, bV, bS, aNil, aCons, aStar, eOp, eUn, eB, eM, eCall, eIf, eAnd, eOr, eNot, eChain, eTup, eLst, deref, derefs, valsOf, tB, tAnd, tOr, tNot, tTrue, iSeq, gName, gAll, gTup, ownL, ownT, gAt, eAppend, ePopK, ePopL, eSeqM, sNext, sSeq, sDrop, sRet, sRetN, sIf, sSet, sAsg, sNew, sNever, sFor, sRetOwn, entry, entryM, outOf, wipeE, backE, aPar, putE, sPar, eSl, pNo, pInt, eIsa, isaOf, one, two, way_any, way_near, way_move, way_front, way_ring, way_ff, way_turns, L3]⟩
    have hp : sSet 3 (eLst aNil) [some ⟨.p, rowD r⟩, some ⟨.p, rowsD (rowsN k r ds.length)⟩, some ⟨.p, .int (y : Nat)⟩, none, none, none] = .ok (.nx, L3 r (rowsN k r ds.length) (some ⟨.p, .int (y : Nat)⟩) [] none) := by simp [eC, eVar, eFrz, bV, bS, aNil, aCons, aStar, eOp, eUn, eB, eM, eCall, eIf, eAnd, eOr, eNot, eChain, eTup, eLst, deref, derefs, valsOf, tB, tAnd, tOr, tNot, tTrue, iSeq, gName, gAll, gTup, ownL, ownT, gAt, eAppend, ePopK, ePopL, eSeqM, sNext, sSeq, sDrop, sRet, sRetN, sIf, sSet, sAsg, sNew, sNever, sFor, sRetOwn, entry, entryM, outOf, wipeE, backE, aPar, putE, sPar, eSl, pNo, pInt, eIsa, isaOf, one, two, way_any, way_near, way_move, way_front, way_ring, way_ff, way_turns, L3, rowsD]
    show sSeq _ _ [some ⟨.p, rowD r⟩, some ⟨.p, rowsD (rowsN k r ds.length)⟩, some ⟨.p, .int (y : Nat)⟩, none, none, none] = _
    rw [seq_nx hp, seq_nx h1]
    simp [eC, eVar, eFrz, bV, bS, aNil, aCons, aStar, eOp, eUn, eB, eM, eCall, eIf, eAnd, eOr, eNot, eChain, eTup, eLst, deref, derefs, valsOf, tB, tAnd, tOr, tNot, tTrue, iSeq, gName, gAll, gTup, ownL, ownT, gAt, eAppend, ePopK, ePopL, eSeqM, sNext, sSeq, sDrop, sRet, sRetN, sIf, sSet, sAsg, sNew, sNever, sFor, sRetOwn, entry, entryM, outOf, wipeE, backE, aPar, putE, sPar, eSl, pNo, pInt, eIsa, isaOf, one, two, way_any, way_near, way_move, way_front, way_ring, way_ff, way_turns, L3]
  obtain ⟨e', h1, rfl⟩ := outer
  have hp : sSet 1 (eLst (aCons (bV (eTup aNil)) aNil)) [some ⟨.p, rowD r⟩, none, none, none, none, none] = .ok (.nx, [some ⟨.p, rowD r⟩, some ⟨.p, rowsD [[]]⟩, none, none, none, none]) := by
    simp [eC, eVar, eFrz, bV, bS, aNil, aCons, aStar, eOp, eUn, eB, eM, eCall, eIf, eAnd, eOr, eNot, eChain, eTup, eLst, deref, derefs, valsOf, tB, tAnd, tOr, tNot, tTrue, iSeq, gName, gAll, gTup, ownL, ownT, gAt, eAppend, ePopK, ePopL, eSeqM, sNext, sSeq, sDrop, sRet, sRetN, sIf, sSet, sAsg, sNew, sNever, sFor, sRetOwn, entry, entryM, outOf, wipeE, backE, aPar, putE, sPar, eSl, pNo, pInt, eIsa, isaOf, one, two, way_any, way_near, way_move, way_front, way_ring, way_ff, way_turns, rowsD, rowD]
  simp only [g__law_all_rows, defP, b__law_all_rows]
  rw [if_pos ⟨rfl, by omega⟩]
  show outOf (sSeq _ (sSeq (sFor [2, 3] (iRange1 (eB (one bLen) (aCons (bV (eVar 0)) (aNil)))) (WP.gName 2) (sSeq (sSet 3 (eLst (aNil))) (sSeq (sFor [4] (iSeq (eVar 1)) (WP.gName 4) (sSet 3 (eOp opAdd (bV (eVar 3)) (bV lawComp)))) (sSet 1 (eVar 3))))) _) [some ⟨.p, rowD r⟩, none, none, none, none, none]) = _
  rw [seq_nx hp, seq_nx h1]
  simp [eC, eVar, eFrz, bV, bS, aNil, aCons, aStar, eOp, eUn, eB, eM, eCall, eIf, eAnd, eOr, eNot, eChain, eTup, eLst, deref, derefs, valsOf, tB, tAnd, tOr, tNot, tTrue, iSeq, gName, gAll, gTup, ownL, ownT, gAt, eAppend, ePopK, ePopL, eSeqM, sNext, sSeq, sDrop, sRet, sRetN, sIf, sSet, sAsg, sNew, sNever, sFor, sRetOwn, entry, entryM, outOf, wipeE, backE, aPar, putE, sPar, eSl, pNo, pInt, eIsa, isaOf, one, two, way_any, way_near, way_move, way_front, way_ring, way_ff, way_turns, arr]
end WP
end
section
set_option Elab.async false
set_option linter.all false
set_option maxRecDepth 100000
set_option autoImplicit false
/-! PL15: the bag. -/
namespace WP
open PySem PySem.Spec
def bag3 (a b c : Int) : List D := [.int a, .int b, .int c]
def IsBag (l : List D) : Prop := ∃ a b c, l = bag3 a b c
theorem take_bag {l : List D} (hb : IsBag l) {t : Int} (h : 0 < t) (h2 : t < 1073741824) : ∃ d l', 0 ≤ d ∧ d < t ∧ IsBag l' ∧ g__law_take l [.int t] = .ok (.int d, l') := by
  obtain ⟨a, b, c, rfl⟩ := hb
  by_cases ha : 0 < a
  · refine ⟨a % t, bag3 (a / t) b c, Int.emod_nonneg _ (by omega), Int.emod_lt_of_pos _ h, ⟨_, _, _, rfl⟩, ?_⟩
    simp [eC, eVar, eFrz, bV, bS, aNil, aCons, aStar, eOp, eUn, eB, eM, eCall, eIf, eAnd, eOr, eNot, eChain, eTup, eLst, deref, derefs, valsOf, tB, tAnd, tOr, tNot, tTrue, iSeq, gName, gAll, gTup, ownL, ownT, gAt, eAppend, ePopK, ePopL, eSeqM, sNext, sSeq, sDrop, sRet, sRetN, sIf, sSet, sAsg, sNew, sNever, sFor, sRetOwn, entry, entryM, outOf, wipeE, backE, aPar, putE, sPar, eSl, pNo, pInt, eIsa, isaOf, one, two, way_any, way_near, way_move, way_front, way_ring, way_ff, way_turns, eCallM, g__law_take, defM, b__law_take, entryM, bag3, opIx, ixOf, ha, divmod_int' h h2]
  · refine ⟨(b * 16807 + 4099 * (c + 1) + 1) % 2147483647 / 911 % t, bag3 a ((b * 16807 + 4099 * (c + 1) + 1) % 2147483647) (c + 1), Int.emod_nonneg _ (by omega), Int.emod_lt_of_pos _ h, ⟨_, _, _, rfl⟩, ?_⟩
    simp [eC, eVar, eFrz, bV, bS, aNil, aCons, aStar, eOp, eUn, eB, eM, eCall, eIf, eAnd, eOr, eNot, eChain, eTup, eLst, deref, derefs, valsOf, tB, tAnd, tOr, tNot, tTrue, iSeq, gName, gAll, gTup, ownL, ownT, gAt, eAppend, ePopK, ePopL, eSeqM, sNext, sSeq, sDrop, sRet, sRetN, sIf, sSet, sAsg, sNew, sNever, sFor, sRetOwn, entry, entryM, outOf, wipeE, backE, aPar, putE, sPar, eSl, pNo, pInt, eIsa, isaOf, one, two, way_any, way_near, way_move, way_front, way_ring, way_ff, way_turns, eCallM, g__law_take, defM, b__law_take, entryM, bag3, opIx, ixOf, ha, mul_int1, mul_int2, mod_int, div_int, h]
theorem take_nat {l : List D} (hb : IsBag l) {t : Nat} (h : 0 < t) (h2 : t < 1000) : ∃ (d : Nat) (l' : List D), d < t ∧ IsBag l' ∧ g__law_take l [.int (t : Nat)] = .ok (.int (d : Nat), l') := by
  obtain ⟨d, l', h3, h4, h5, h6⟩ := take_bag hb (t := (t : Nat)) (by omega) (by omega)
  refine ⟨d.toNat, l', by omega, h5, ?_⟩
  rw [h6, Int.toNat_of_nonneg h3]
theorem pull_bag {l : List D} (hb : IsBag l) {xs : List D} (h : 0 < xs.length) (h2 : xs.length < 1000) : ∃ x l', x ∈ xs ∧ IsBag l' ∧ g__law_pull l [.list xs] = .ok (x, l') := by
  obtain ⟨d, l', h3, h4, h5⟩ := take_nat hb h h2
  refine ⟨xs[d], l', List.getElem_mem _, h4, ?_⟩
  simp [eC, eVar, eFrz, bV, bS, aNil, aCons, aStar, eOp, eUn, eB, eM, eCall, eIf, eAnd, eOr, eNot, eChain, eTup, eLst, deref, derefs, valsOf, tB, tAnd, tOr, tNot, tTrue, iSeq, gName, gAll, gTup, ownL, ownT, gAt, eAppend, ePopK, ePopL, eSeqM, sNext, sSeq, sDrop, sRet, sRetN, sIf, sSet, sAsg, sNew, sNever, sFor, sRetOwn, entry, entryM, outOf, wipeE, backE, aPar, putE, sPar, eSl, pNo, pInt, eIsa, isaOf, one, two, way_any, way_near, way_move, way_front, way_ring, way_ff, way_turns, eCallM, g__law_pull, defM, b__law_pull, entryM, h5, opIx, ixOf, h3]
theorem way_bag {l : List D} (hb : IsBag l) : ∃ (w : Way) (l' : List D), IsBag l' ∧ g__law_way l [] = .ok (w.d, l') := by
  obtain ⟨x, l', h1, h2, h3⟩ := pull_bag hb (xs := [.str "any", .str "near", .str "move", .str "front"]) (by decide) (by decide)
  have hw : ∃ w : Way, x = w.d := by
    simp only [List.mem_cons, List.not_mem_nil, or_false] at h1
    rcases h1 with rfl | rfl | rfl | rfl
    · exact ⟨.any, rfl⟩
    · exact ⟨.near, rfl⟩
    · exact ⟨.move, rfl⟩
    · exact ⟨.front, rfl⟩
  obtain ⟨w, rfl⟩ := hw
  refine ⟨w, l', h2, ?_⟩
  simp [eC, eVar, eFrz, bV, bS, aNil, aCons, aStar, eOp, eUn, eB, eM, eCall, eIf, eAnd, eOr, eNot, eChain, eTup, eLst, deref, derefs, valsOf, tB, tAnd, tOr, tNot, tTrue, iSeq, gName, gAll, gTup, ownL, ownT, gAt, eAppend, ePopK, ePopL, eSeqM, sNext, sSeq, sDrop, sRet, sRetN, sIf, sSet, sAsg, sNew, sNever, sFor, sRetOwn, entry, entryM, outOf, wipeE, backE, aPar, putE, sPar, eSl, pNo, pInt, eIsa, isaOf, one, two, way_any, way_near, way_move, way_front, way_ring, way_ff, way_turns, eCallM, g__law_way, defM, b__law_way, entryM, h3]
/-- a comprehension that changes what it keeps -/
theorem compLoop_inv {α : Type} {own : List Nat} {g : GF} {f : EF} (I : Env → Prop) (V : D → Prop) (ι : α → D) : ∀ (ys : List α) (acc : List D) (E : Env), I E →
    (∀ y ∈ ys, ∀ e, I e → ∃ e1 e3 v, g (ι y) e = .ok e1 ∧ f e1 = .ok (v, e3) ∧ V v ∧ I (wipeE e3 own)) →
    ∃ vs E', compLoop own g tTrue f (ys.map ι) acc E = .ok (acc ++ vs, E') ∧ vs.length = ys.length ∧ (∀ v ∈ vs, V v) ∧ I E'
  | [], acc, E, h0, _ => ⟨[], E, by simp [eC, eVar, eFrz, bV, bS, aNil, aCons, aStar, eOp, eUn, eB, eM, eCall, eIf, eAnd, eOr, eNot, eChain, eTup, eLst, deref, derefs, valsOf, tB, tAnd, tOr, tNot, tTrue, iSeq, gName, gAll, gTup, ownL, ownT, gAt, eAppend, ePopK, ePopL, eSeqM, sNext, sSeq, sDrop, sRet, sRetN, sIf, sSet, sAsg, sNew, sNever, sFor, sRetOwn, entry, entryM, outOf, wipeE, backE, aPar, putE, sPar, eSl, pNo, pInt, eIsa, isaOf, one, two, way_any, way_near, way_move, way_front, way_ring, way_ff, way_turns, eCallM, compLoop], rfl, by simp [eC, eVar, eFrz, bV, bS, aNil, aCons, aStar, eOp, eUn, eB, eM, eCall, eIf, eAnd, eOr, eNot, eChain, eTup, eLst, deref, derefs, valsOf, tB, tAnd, tOr, tNot, tTrue, iSeq, gName, gAll, gTup, ownL, ownT, gAt, eAppend, ePopK, ePopL, eSeqM, sNext, sSeq, sDrop, sRet, sRetN, sIf, sSet, sAsg, sNew, sNever, sFor, sRetOwn, entry, entryM, outOf, wipeE, backE, aPar, putE, sPar, eSl, pNo, pInt, eIsa, isaOf, one, two, way_any, way_near, way_move, way_front, way_ring, way_ff, way_turns, eCallM], h0⟩
  | y :: ys, acc, E, h0, h => by
    obtain ⟨e1, e3, v, h1, h2, h3, h4⟩ := h y List.mem_cons_self E h0
    obtain ⟨vs, E', h5, h6, h7, h8⟩ := compLoop_inv I V ι ys (acc ++ [v]) _ h4 fun z hz => h z (List.mem_cons_of_mem _ hz)
    refine ⟨v :: vs, E', ?_, by simp [eC, eVar, eFrz, bV, bS, aNil, aCons, aStar, eOp, eUn, eB, eM, eCall, eIf, eAnd, eOr, eNot, eChain, eTup, eLst, deref, derefs, valsOf, tB, tAnd, tOr, tNot, tTrue, iSeq, gName, gAll, gTup, ownL, ownT, gAt, eAppend, ePopK, ePopL, eSeqM, sNext, sSeq, sDrop, sRet, sRetN, sIf, sSet, sAsg, sNew, sNever, sFor, sRetOwn, entry, entryM, outOf, wipeE, backE, aPar, putE, sPar, eSl, pNo, pInt, eIsa, isaOf, one, two, way_any, way_near, way_move, way_front, way_ring, way_ff, way_turns, eCallM, h6], ?_, h8⟩
    · simp only [List.map_cons, compLoop, h1, tTrue, ok_bind, if_true, h2, h5, List.append_assoc, List.singleton_append]
    · intro z hz
      rcases List.mem_cons.mp hz with rfl | hz
      · exact h3
      · exact h7 z hz
theorem eComp_inv {α : Type} {own : List Nat} {it : IF} {g : GF} {f : EF} {env env1 : Env} (I : Env → Prop) (V : D → Prop) (ι : α → D) {ys : List α} (hi : it env = .ok (ys.map ι, env1)) (hl : ys.length ≤ 16777216) (h0 : I (wipeE env1 own))
    (h : ∀ y ∈ ys, ∀ e, I e → ∃ e1 e3 v, g (ι y) e = .ok e1 ∧ f e1 = .ok (v, e3) ∧ V v ∧ I (wipeE e3 own)) :
    ∃ vs E', eComp own it g tTrue f env = .ok (.list vs, backE env1 E' own) ∧ vs.length = ys.length ∧ (∀ v ∈ vs, V v) ∧ I E' := by
  obtain ⟨vs, E', h1, h2, h3, h4⟩ := compLoop_inv I V ι ys [] _ h0 h
  refine ⟨vs, E', ?_, h2, h3, h4⟩
  unfold eComp
  rw [hi, ok_bind]
  dsimp only
  rw [List.length_map, if_pos hl, h1]
  simp [eC, eVar, eFrz, bV, bS, aNil, aCons, aStar, eOp, eUn, eB, eM, eCall, eIf, eAnd, eOr, eNot, eChain, eTup, eLst, deref, derefs, valsOf, tB, tAnd, tOr, tNot, tTrue, iSeq, gName, gAll, gTup, ownL, ownT, gAt, eAppend, ePopK, ePopL, eSeqM, sNext, sSeq, sDrop, sRet, sRetN, sIf, sSet, sAsg, sNew, sNever, sFor, sRetOwn, entry, entryM, outOf, wipeE, backE, aPar, putE, sPar, eSl, pNo, pInt, eIsa, isaOf, one, two, way_any, way_near, way_move, way_front, way_ring, way_ff, way_turns, eCallM, noExc]
def RB (m : Nat) (k : Nat) (l : List D) (x : Option Sl) : Env := [some ⟨.q, .list l⟩, some ⟨.p, .int (m : Nat)⟩, some ⟨.p, .int (k : Nat)⟩, x]
theorem row_vals {k : Nat} : ∀ vs : List D, (∀ v ∈ vs, ∃ c : Nat, c < k ∧ v = .int (c : Nat)) → ∃ r : Row, vs = r.map .int ∧ InK k r
  | [], _ => ⟨[], rfl, by simp [eC, eVar, eFrz, bV, bS, aNil, aCons, aStar, eOp, eUn, eB, eM, eCall, eIf, eAnd, eOr, eNot, eChain, eTup, eLst, deref, derefs, valsOf, tB, tAnd, tOr, tNot, tTrue, iSeq, gName, gAll, gTup, ownL, ownT, gAt, eAppend, ePopK, ePopL, eSeqM, sNext, sSeq, sDrop, sRet, sRetN, sIf, sSet, sAsg, sNew, sNever, sFor, sRetOwn, entry, entryM, outOf, wipeE, backE, aPar, putE, sPar, eSl, pNo, pInt, eIsa, isaOf, one, two, way_any, way_near, way_move, way_front, way_ring, way_ff, way_turns, eCallM, InK]⟩
  | v :: vs, h => by
    obtain ⟨r, h1, h2⟩ := row_vals vs fun z hz => h z (List.mem_cons_of_mem _ hz)
    obtain ⟨c, hc, rfl⟩ := h v List.mem_cons_self
    refine ⟨(c : Int) :: r, by rw [h1]; rfl, ?_⟩
    intro y hy
    rcases List.mem_cons.mp hy with rfl | hy
    · exact ⟨c, hc, rfl⟩
    · exact h2 y hy
theorem row_bag {l : List D} (hb : IsBag l) {m : Nat} (h1 : 0 < m) (h2 : m ≤ 7) : ∃ (k : Nat) (r : Row) (l' : List D), 2 ≤ k ∧ k ≤ 4 ∧ 1 ≤ r.length ∧ r.length ≤ m ∧ InK k r ∧ IsBag l' ∧ g__law_row l [.int (m : Nat)] = .ok (.tuple [.int (k : Nat), rowD r], l') := by
  obtain ⟨d, l1, d1, b1, t1⟩ := take_nat hb (t := 3) (by decide) (by decide)
  obtain ⟨n, l2, d2, b2, t2⟩ := take_nat b1 (t := m) h1 (by omega)
  have t1' : g__law_take l [.int 3] = .ok (.int (d : Nat), l1) := t1
  have hk : (2 : Int) + (d : Nat) = ((2 + d : Nat) : Int) := by omega
  obtain ⟨vs, E', h5, h6, h7, ls, h8, rfl⟩ := eComp_inv (own := [3]) (it := iRange1 (eOp opAdd (bV (eC (.int 1))) (bV (eCallM g__law_take 0 (aCons (bV (eVar 1)) (aNil)))))) (g := WP.gName 3) (f := eCallM g__law_take 0 (aCons (bV (eVar 2)) (aNil)))
    (env := RB m (2 + d) l1 none) (env1 := RB m (2 + d) l2 none) (fun e => ∃ ls, IsBag ls ∧ e = RB m (2 + d) ls none) (fun v => ∃ c : Nat, c < 2 + d ∧ v = .int (c : Nat)) (fun i : Nat => PyData.int (i : Nat)) (ys := List.range (1 + n))
    (range1_of (n := 1 + n) (by simp [eC, eVar, eFrz, bV, bS, aNil, aCons, aStar, eOp, eUn, eB, eM, eCall, eIf, eAnd, eOr, eNot, eChain, eTup, eLst, deref, derefs, valsOf, tB, tAnd, tOr, tNot, tTrue, iSeq, gName, gAll, gTup, ownL, ownT, gAt, eAppend, ePopK, ePopL, eSeqM, sNext, sSeq, sDrop, sRet, sRetN, sIf, sSet, sAsg, sNew, sNever, sFor, sRetOwn, entry, entryM, outOf, wipeE, backE, aPar, putE, sPar, eSl, pNo, pInt, eIsa, isaOf, one, two, way_any, way_near, way_move, way_front, way_ring, way_ff, way_turns, eCallM, RB, t2]) (by omega)) (by rw [List.length_range]; omega) ⟨l2, b2, rfl⟩ (by
      rintro y _ e ⟨ls, hls, rfl⟩
      obtain ⟨c, l3, d3, b3, t3⟩ := take_nat hls (t := 2 + d) (by omega) (by omega)
      exact ⟨_, RB m (2 + d) l3 (some ⟨.p, .int (y : Nat)⟩), .int (c : Nat), rfl, by
        have t3' : g__law_take ls [.int ((2 : Int) + (d : Nat))] = .ok (.int (c : Nat), l3) := by rw [hk]; exact t3
        simp [eC, eVar, eFrz, bV, bS, aNil, aCons, aStar, eOp, eUn, eB, eM, eCall, eIf, eAnd, eOr, eNot, eChain, eTup, eLst, deref, derefs, valsOf, tB, tAnd, tOr, tNot, tTrue, iSeq, gName, gAll, gTup, ownL, ownT, gAt, eAppend, ePopK, ePopL, eSeqM, sNext, sSeq, sDrop, sRet, sRetN, sIf, sSet, sAsg, sNew, sNever, sFor, sRetOwn, entry, entryM, outOf, wipeE, backE, aPar, putE, sPar, eSl, pNo, pInt, eIsa, isaOf, one, two, way_any, way_near, way_move, way_front, way_ring, way_ff, way_turns, eCallM, RB, t3'], ⟨c, d3, rfl⟩, l3, b3, by simp [eC, eVar, eFrz, bV, bS, aNil, aCons, aStar, eOp, eUn, eB, eM, eCall, eIf, eAnd, eOr, eNot, eChain, eTup, eLst, deref, derefs, valsOf, tB, tAnd, tOr, tNot, tTrue, iSeq, gName, gAll, gTup, ownL, ownT, gAt, eAppend, ePopK, ePopL, eSeqM, sNext, sSeq, sDrop, sRet, sRetN, sIf, sSet, sAsg, sNew, sNever, sFor, sRetOwn, entry, entryM, outOf, wipeE, backE, aPar, putE, sPar, eSl, pNo, pInt, eIsa, isaOf, one, two, way_any, way_near, way_move, way_front, way_ring, way_ff, way_turns, eCallM, RB]⟩)
  obtain ⟨r, hr, hI⟩ := row_vals vs h7
  rw [List.length_range] at h6
  have hrl : r.length = 1 + n := by rw [← h6, hr, List.length_map]
  refine ⟨2 + d, r, ls, by omega, by omega, by omega, by omega, hI, h8, ?_⟩
  have hset : sSet 2 (eOp opAdd (bV (eC (.int 2))) (bV (eCallM g__law_take 0 (aCons (bV (eC (.int 3))) (aNil))))) [some ⟨.q, .list l⟩, some ⟨.p, .int (m : Nat)⟩, none, none] = .ok (.nx, RB m (2 + d) l1 none) := by
    simp [eC, eVar, eFrz, bV, bS, aNil, aCons, aStar, eOp, eUn, eB, eM, eCall, eIf, eAnd, eOr, eNot, eChain, eTup, eLst, deref, derefs, valsOf, tB, tAnd, tOr, tNot, tTrue, iSeq, gName, gAll, gTup, ownL, ownT, gAt, eAppend, ePopK, ePopL, eSeqM, sNext, sSeq, sDrop, sRet, sRetN, sIf, sSet, sAsg, sNew, sNever, sFor, sRetOwn, entry, entryM, outOf, wipeE, backE, aPar, putE, sPar, eSl, pNo, pInt, eIsa, isaOf, one, two, way_any, way_near, way_move, way_front, way_ring, way_ff, way_turns, eCallM, RB, t1']
  simp only [g__law_row, defM, b__law_row]
  rw [if_pos ⟨rfl, by omega⟩]
  show (sSeq _ _ [some ⟨.q, .list l⟩, some ⟨.p, .int (m : Nat)⟩, none, none]).bind _ = _
  rw [seq_nx hset]
  have hv : eVar 2 (RB m (2 + d) l1 none) = .ok (.int ((2 + d : Nat) : Int), RB m (2 + d) l1 none) := rfl
  simp only [sRet, eTup, aCons, bV, aNil, hv, ok_bind, eB, h5]
  simp [eC, eVar, eFrz, bV, bS, aNil, aCons, aStar, eOp, eUn, eB, eM, eCall, eIf, eAnd, eOr, eNot, eChain, eTup, eLst, deref, derefs, valsOf, tB, tAnd, tOr, tNot, tTrue, iSeq, gName, gAll, gTup, ownL, ownT, gAt, eAppend, ePopK, ePopL, eSeqM, sNext, sSeq, sDrop, sRet, sRetN, sIf, sSet, sAsg, sNew, sNever, sFor, sRetOwn, entry, entryM, outOf, wipeE, backE, aPar, putE, sPar, eSl, pNo, pInt, eIsa, isaOf, one, two, way_any, way_near, way_move, way_front, way_ring, way_ff, way_turns, eCallM, RB, hr, rowD]
end WP
end
section
set_option Elab.async false
set_option linter.all false
set_option maxRecDepth 100000
set_option autoImplicit false
/-! PL16: the bag's start. -/
namespace WP
open PySem PySem.Spec
def BE (ns : List Int) (p : Nat) (v : Int) (own : Option Sl) : Env := [some ⟨.p, .list (ns.map .int)⟩, some ⟨.p, .int (p : Nat)⟩, some ⟨.p, .int v⟩, none, own]
theorem pow_ten : opPow (.int 10) (.int 15) = some (.int 1000000000000000) := by simp [eC, eVar, eFrz, bV, bS, aNil, aCons, aStar, eOp, eUn, eB, eM, eCall, eIf, eAnd, eOr, eNot, eChain, eTup, eLst, deref, derefs, valsOf, tB, tAnd, tOr, tNot, tTrue, iSeq, gName, gAll, gTup, ownL, ownT, gAt, eAppend, ePopK, ePopL, eSeqM, sNext, sSeq, sDrop, sRet, sRetN, sIf, sSet, sAsg, sNew, sNever, sFor, sRetOwn, entry, entryM, outOf, wipeE, backE, aPar, putE, sPar, eSl, pNo, pInt, eIsa, isaOf, one, two, way_any, way_near, way_move, way_front, way_ring, way_ff, way_turns, eCallM, opPow, big]
theorem bag_stir (ns : List Int) (p : Nat) (v : Int) : ∃ e', sFor [3] (iSeq (eSl (bV (eVar 0)) (pNo) (pInt (eC (.int 16))))) (WP.gName 3) (sSet 2 (eOp opMod (bV (eB (one bInt) (aCons (bV (eOp opAdd (bV (eOp opAdd (bV (eOp opMulI (bV (eVar 2)) (bV (eC (.int 48271))))) (bV (eOp opMod (bV (eB (one bInt) (aCons (bV (eVar 3)) (aNil)))) (bV (eC (.int 2147483629))))))) (bV (eC (.int 23))))) (aNil)))) (bV (eC (.int 2147483647))))) (BE ns p v none) = .ok (.nx, e') ∧ ∃ v', e' = BE ns p v' none := by
  have hc : opCut (.list (ns.map PyData.int)) none (some (16 : Int)) = some (.list ((ns.take 16).map .int)) := cut_lst_to ns 16
  refine sFor_inv PyData.int (fun _ e => ∃ v', e = BE ns p v' none) (ys := ns.take 16) (env1 := BE ns p v none) (by simp [eC, eVar, eFrz, bV, bS, aNil, aCons, aStar, eOp, eUn, eB, eM, eCall, eIf, eAnd, eOr, eNot, eChain, eTup, eLst, deref, derefs, valsOf, tB, tAnd, tOr, tNot, tTrue, iSeq, gName, gAll, gTup, ownL, ownT, gAt, eAppend, ePopK, ePopL, eSeqM, sNext, sSeq, sDrop, sRet, sRetN, sIf, sSet, sAsg, sNew, sNever, sFor, sRetOwn, entry, entryM, outOf, wipeE, backE, aPar, putE, sPar, eSl, pNo, pInt, eIsa, isaOf, one, two, way_any, way_near, way_move, way_front, way_ring, way_ff, way_turns, eCallM, BE, hc]) ⟨v, rfl⟩ ?_
  rintro d y r e _ ⟨v', rfl⟩
  exact ⟨_, [some ⟨.p, .list (ns.map .int)⟩, some ⟨.p, .int (p : Nat)⟩, some ⟨.p, .int ((v' * 48271 + y % 2147483629 + 23) % 2147483647)⟩, some ⟨.p, .int y⟩, none], rfl, by simp [eC, eVar, eFrz, bV, bS, aNil, aCons, aStar, eOp, eUn, eB, eM, eCall, eIf, eAnd, eOr, eNot, eChain, eTup, eLst, deref, derefs, valsOf, tB, tAnd, tOr, tNot, tTrue, iSeq, gName, gAll, gTup, ownL, ownT, gAt, eAppend, ePopK, ePopL, eSeqM, sNext, sSeq, sDrop, sRet, sRetN, sIf, sSet, sAsg, sNew, sNever, sFor, sRetOwn, entry, entryM, outOf, wipeE, backE, aPar, putE, sPar, eSl, pNo, pInt, eIsa, isaOf, one, two, way_any, way_near, way_move, way_front, way_ring, way_ff, way_turns, eCallM, BE, mul_int1, mod_int], (v' * 48271 + y % 2147483629 + 23) % 2147483647, by simp [eC, eVar, eFrz, bV, bS, aNil, aCons, aStar, eOp, eUn, eB, eM, eCall, eIf, eAnd, eOr, eNot, eChain, eTup, eLst, deref, derefs, valsOf, tB, tAnd, tOr, tNot, tTrue, iSeq, gName, gAll, gTup, ownL, ownT, gAt, eAppend, ePopK, ePopL, eSeqM, sNext, sSeq, sDrop, sRet, sRetN, sIf, sSet, sAsg, sNew, sNever, sFor, sRetOwn, entry, entryM, outOf, wipeE, backE, aPar, putE, sPar, eSl, pNo, pInt, eIsa, isaOf, one, two, way_any, way_near, way_move, way_front, way_ring, way_ff, way_turns, eCallM, BE]⟩
theorem bag_own (ns : List Int) (p : Nat) (v : Int) : ∃ w, sSet 4 (eIf (WP.tB (eOp opLt (bV (eVar 1)) (bV (eB (one bLen) (aCons (bV (eVar 0)) (aNil)))))) (eB (one bInt) (aCons (bV (eOp opIx (bV (eVar 0)) (bV (eVar 1)))) (aNil))) (eC (.int 0))) (BE ns p v none) = .ok (.nx, BE ns p v (some ⟨.p, .int w⟩)) := by
  by_cases h : p < ns.length
  · refine ⟨ns[p], ?_⟩
    have h' : (p : Int) < (ns.length : Nat) := by omega
    simp [eC, eVar, eFrz, bV, bS, aNil, aCons, aStar, eOp, eUn, eB, eM, eCall, eIf, eAnd, eOr, eNot, eChain, eTup, eLst, deref, derefs, valsOf, tB, tAnd, tOr, tNot, tTrue, iSeq, gName, gAll, gTup, ownL, ownT, gAt, eAppend, ePopK, ePopL, eSeqM, sNext, sSeq, sDrop, sRet, sRetN, sIf, sSet, sAsg, sNew, sNever, sFor, sRetOwn, entry, entryM, outOf, wipeE, backE, aPar, putE, sPar, eSl, pNo, pInt, eIsa, isaOf, one, two, way_any, way_near, way_move, way_front, way_ring, way_ff, way_turns, eCallM, BE, opIx, ixOf, h]
  · refine ⟨0, ?_⟩
    have h' : ¬ (p : Int) < (ns.length : Nat) := by omega
    simp [eC, eVar, eFrz, bV, bS, aNil, aCons, aStar, eOp, eUn, eB, eM, eCall, eIf, eAnd, eOr, eNot, eChain, eTup, eLst, deref, derefs, valsOf, tB, tAnd, tOr, tNot, tTrue, iSeq, gName, gAll, gTup, ownL, ownT, gAt, eAppend, ePopK, ePopL, eSeqM, sNext, sSeq, sDrop, sRet, sRetN, sIf, sSet, sAsg, sNew, sNever, sFor, sRetOwn, entry, entryM, outOf, wipeE, backE, aPar, putE, sPar, eSl, pNo, pInt, eIsa, isaOf, one, two, way_any, way_near, way_move, way_front, way_ring, way_ff, way_turns, eCallM, BE, h]
theorem law_bag (ns : List Int) (p : Nat) (hp : p < 1000) : ∃ l, IsBag l ∧ g__law_bag [.list (ns.map .int), .int (p : Nat)] = .ok (.list l) := by
  obtain ⟨_, h1, v, rfl⟩ := bag_stir ns p (52027 + 8009 * p)
  obtain ⟨w, h2⟩ := bag_own ns p v
  have h0 : sSet 2 (eOp opAdd (bV (eC (.int 52027))) (bV (eOp opMulI (bV (eC (.int 8009))) (bV (eVar 1))))) [some ⟨.p, .list (ns.map .int)⟩, some ⟨.p, .int (p : Nat)⟩, none, none, none] = .ok (.nx, BE ns p (52027 + 8009 * p) none) := by
    simp [eC, eVar, eFrz, bV, bS, aNil, aCons, aStar, eOp, eUn, eB, eM, eCall, eIf, eAnd, eOr, eNot, eChain, eTup, eLst, deref, derefs, valsOf, tB, tAnd, tOr, tNot, tTrue, iSeq, gName, gAll, gTup, ownL, ownT, gAt, eAppend, ePopK, ePopL, eSeqM, sNext, sSeq, sDrop, sRet, sRetN, sIf, sSet, sAsg, sNew, sNever, sFor, sRetOwn, entry, entryM, outOf, wipeE, backE, aPar, putE, sPar, eSl, pNo, pInt, eIsa, isaOf, one, two, way_any, way_near, way_move, way_front, way_ring, way_ff, way_turns, eCallM, BE, mul_int2]
  have h3 : sSet 2 (eOp opMod (bV (eB (one bInt) (aCons (bV (eOp opAdd (bV (eOp opAdd (bV (eOp opMulI (bV (eVar 2)) (bV (eC (.int 31))))) (bV (eOp opMulI (bV (eOp opMod (bV (eB (one bInt) (aCons (bV (eVar 4)) (aNil)))) (bV (eC (.int 2147483629))))) (bV (eC (.int 17))))))) (bV (eC (.int 3))))) (aNil)))) (bV (eC (.int 2147483647)))) (BE ns p v (some ⟨.p, .int w⟩)) = .ok (.nx, BE ns p ((v * 31 + w % 2147483629 * 17 + 3) % 2147483647) (some ⟨.p, .int w⟩)) := by
    simp [eC, eVar, eFrz, bV, bS, aNil, aCons, aStar, eOp, eUn, eB, eM, eCall, eIf, eAnd, eOr, eNot, eChain, eTup, eLst, deref, derefs, valsOf, tB, tAnd, tOr, tNot, tTrue, iSeq, gName, gAll, gTup, ownL, ownT, gAt, eAppend, ePopK, ePopL, eSeqM, sNext, sSeq, sDrop, sRet, sRetN, sIf, sSet, sAsg, sNew, sNever, sFor, sRetOwn, entry, entryM, outOf, wipeE, backE, aPar, putE, sPar, eSl, pNo, pInt, eIsa, isaOf, one, two, way_any, way_near, way_move, way_front, way_ring, way_ff, way_turns, eCallM, BE, mul_int1, mod_int]
  refine ⟨bag3 (if w < 0 ∨ 1000000000000000 ≤ w then (if w < 0 then -w else w) else 0) ((v * 31 + w % 2147483629 * 17 + 3) % 2147483647) 0, ⟨_, _, _, rfl⟩, ?_⟩
  simp only [g__law_bag, defN, b__law_bag]
  rw [if_pos ⟨rfl, by omega⟩]
  show (sSeq _ _ [some ⟨.p, .list (ns.map .int)⟩, some ⟨.p, .int (p : Nat)⟩, none, none, none]).bind _ = _
  rw [seq_nx h0, seq_nx h1, seq_nx h2, seq_nx h3]
  by_cases a : w < 0
  · simp [eC, eVar, eFrz, bV, bS, aNil, aCons, aStar, eOp, eUn, eB, eM, eCall, eIf, eAnd, eOr, eNot, eChain, eTup, eLst, deref, derefs, valsOf, tB, tAnd, tOr, tNot, tTrue, iSeq, gName, gAll, gTup, ownL, ownT, gAt, eAppend, ePopK, ePopL, eSeqM, sNext, sSeq, sDrop, sRet, sRetN, sIf, sSet, sAsg, sNew, sNever, sFor, sRetOwn, entry, entryM, outOf, wipeE, backE, aPar, putE, sPar, eSl, pNo, pInt, eIsa, isaOf, one, two, way_any, way_near, way_move, way_front, way_ring, way_ff, way_turns, eCallM, BE, bag3, a]
  · by_cases b : 1000000000000000 ≤ w
    · simp [eC, eVar, eFrz, bV, bS, aNil, aCons, aStar, eOp, eUn, eB, eM, eCall, eIf, eAnd, eOr, eNot, eChain, eTup, eLst, deref, derefs, valsOf, tB, tAnd, tOr, tNot, tTrue, iSeq, gName, gAll, gTup, ownL, ownT, gAt, eAppend, ePopK, ePopL, eSeqM, sNext, sSeq, sDrop, sRet, sRetN, sIf, sSet, sAsg, sNew, sNever, sFor, sRetOwn, entry, entryM, outOf, wipeE, backE, aPar, putE, sPar, eSl, pNo, pInt, eIsa, isaOf, one, two, way_any, way_near, way_move, way_front, way_ring, way_ff, way_turns, eCallM, BE, bag3, a, b, pow_ten]
    · simp [eC, eVar, eFrz, bV, bS, aNil, aCons, aStar, eOp, eUn, eB, eM, eCall, eIf, eAnd, eOr, eNot, eChain, eTup, eLst, deref, derefs, valsOf, tB, tAnd, tOr, tNot, tTrue, iSeq, gName, gAll, gTup, ownL, ownT, gAt, eAppend, ePopK, ePopL, eSeqM, sNext, sSeq, sDrop, sRet, sRetN, sIf, sSet, sAsg, sNew, sNever, sFor, sRetOwn, entry, entryM, outOf, wipeE, backE, aPar, putE, sPar, eSl, pNo, pInt, eIsa, isaOf, one, two, way_any, way_near, way_move, way_front, way_ring, way_ff, way_turns, eCallM, BE, bag3, a, b, pow_ten]
end WP
end
section
set_option Elab.async false
set_option linter.all false
set_option maxRecDepth 100000
set_option autoImplicit false
/-! PL17: the mixed row. -/
namespace WP
open PySem PySem.Spec
def MB (r : Row) (l : List D) (pl pf : List Nat) : Env := [some ⟨.q, .list l⟩, some ⟨.p, rowD r⟩, some ⟨.m, .list (pl.map fun i => PyData.int (nth r i))⟩, some ⟨.m, .list (pf.map fun i => PyData.int (nth r i))⟩]
theorem pick_perm (pf pl : List Nat) {d : Nat} (h : d < pl.length) : ((pf ++ [pl[d]]) ++ pl.eraseIdx d).Perm (pf ++ pl) := by
  rw [List.append_assoc, List.eraseIdx_eq_take_drop_succ]
  refine List.Perm.append_left pf ?_
  have e : pl = pl.take d ++ pl[d] :: pl.drop (d + 1) := by rw [List.getElem_cons_drop, List.take_append_drop]
  have q : (pl[d] :: (pl.take d ++ pl.drop (d + 1))).Perm (pl.take d ++ pl[d] :: pl.drop (d + 1)) := List.perm_middle.symm
  rw [← e] at q
  exact q
theorem map_erase {α β : Type} (f : α → β) : ∀ (l : List α) (d : Nat), (l.map f).eraseIdx d = (l.eraseIdx d).map f
  | [], _ => rfl
  | _ :: _, 0 => rfl
  | x :: l, d + 1 => by simp [eC, eVar, eFrz, bV, bS, aNil, aCons, aStar, eOp, eUn, eB, eM, eCall, eIf, eAnd, eOr, eNot, eChain, eTup, eLst, deref, derefs, valsOf, tB, tAnd, tOr, tNot, tTrue, iSeq, gName, gAll, gTup, ownL, ownT, gAt, eAppend, ePopK, ePopL, eSeqM, sNext, sSeq, sDrop, sRet, sRetN, sIf, sSet, sAsg, sNew, sNever, sFor, sRetOwn, entry, entryM, outOf, wipeE, backE, aPar, putE, sPar, eSl, pNo, pInt, eIsa, isaOf, one, two, way_any, way_near, way_move, way_front, way_ring, way_ff, way_turns, eCallM, map_erase f l d]
theorem ne_ints (f : Nat → Int) : ∀ l : List Nat, opNe (.list (l.map fun i => PyData.int (f i))) (.list []) = some (.bool (!decide (l = [])))
  | [] => rfl
  | x :: l => by
    have a : okD (.list ((x :: l).map fun i => PyData.int (f i))) = true := by
      have := okN_ints 39 ((x :: l).map f)
      rw [List.map_map] at this
      exact this
    have b : okD (.list []) = true := rfl
    simp only [opNe, a, b, and_self, if_true]
    rfl
theorem nth_map (r : Row) : (List.range r.length).map (nth r) = r := by
  refine List.ext_getElem (by simp [eC, eVar, eFrz, bV, bS, aNil, aCons, aStar, eOp, eUn, eB, eM, eCall, eIf, eAnd, eOr, eNot, eChain, eTup, eLst, deref, derefs, valsOf, tB, tAnd, tOr, tNot, tTrue, iSeq, gName, gAll, gTup, ownL, ownT, gAt, eAppend, ePopK, ePopL, eSeqM, sNext, sSeq, sDrop, sRet, sRetN, sIf, sSet, sAsg, sNew, sNever, sFor, sRetOwn, entry, entryM, outOf, wipeE, backE, aPar, putE, sPar, eSl, pNo, pInt, eIsa, isaOf, one, two, way_any, way_near, way_move, way_front, way_ring, way_ff, way_turns, eCallM]) ?_
  intro i h1 h2
  rw [List.getElem_map, List.getElem_range, nth_get h2]
theorem mixed_bag {l : List D} (hb : IsBag l) {r : Row} (hr : r.length < 1000) : ∃ (π : List Nat) (l' : List D), π.Perm (List.range r.length) ∧ IsBag l' ∧ g__law_mixed l [rowD r] = .ok (rowD (π.map (nth r)), l') := by
  have loop : ∃ e', sWhile [] fuel (WP.tB (eOp opNe (bS 2) (bV (eLst (aNil))))) (sDrop (eAppend 3 (ePopK 2 (eCallM g__law_take 0 (aCons (bV (eB (one bLen) (aCons (bS 2) (aNil)))) (aNil)))))) (MB r l (List.range r.length) []) = .ok (.nx, e') ∧
      ∃ π l', π.Perm (List.range r.length) ∧ IsBag l' ∧ e' = MB r l' [] π := by
    refine sWhile_inv (fun k e => ∃ pl pf l', pl.length = k ∧ (pf ++ pl).Perm (List.range r.length) ∧ IsBag l' ∧ e = MB r l' pl pf) (fun e' => ∃ π l', π.Perm (List.range r.length) ∧ IsBag l' ∧ e' = MB r l' [] π) r.length (by omega) ⟨List.range r.length, [], l, List.length_range, List.Perm.refl _, hb, rfl⟩ ?_
    rintro k e ⟨pl, pf, l', hk, hp, hl, rfl⟩
    refine ⟨!decide (pl = []), MB r l' pl pf, by simp [eC, eVar, eFrz, bV, bS, aNil, aCons, aStar, eOp, eUn, eB, eM, eCall, eIf, eAnd, eOr, eNot, eChain, eTup, eLst, deref, derefs, valsOf, tB, tAnd, tOr, tNot, tTrue, iSeq, gName, gAll, gTup, ownL, ownT, gAt, eAppend, ePopK, ePopL, eSeqM, sNext, sSeq, sDrop, sRet, sRetN, sIf, sSet, sAsg, sNew, sNever, sFor, sRetOwn, entry, entryM, outOf, wipeE, backE, aPar, putE, sPar, eSl, pNo, pInt, eIsa, isaOf, one, two, way_any, way_near, way_move, way_front, way_ring, way_ff, way_turns, eCallM, MB, ne_ints], ?_, ?_⟩
    · intro h
      have h : pl = [] := by simpa [eC, eVar, eFrz, bV, bS, aNil, aCons, aStar, eOp, eUn, eB, eM, eCall, eIf, eAnd, eOr, eNot, eChain, eTup, eLst, deref, derefs, valsOf, tB, tAnd, tOr, tNot, tTrue, iSeq, gName, gAll, gTup, ownL, ownT, gAt, eAppend, ePopK, ePopL, eSeqM, sNext, sSeq, sDrop, sRet, sRetN, sIf, sSet, sAsg, sNew, sNever, sFor, sRetOwn, entry, entryM, outOf, wipeE, backE, aPar, putE, sPar, eSl, pNo, pInt, eIsa, isaOf, one, two, way_any, way_near, way_move, way_front, way_ring, way_ff, way_turns, eCallM] using h
      subst h
      exact ⟨pf, l', by simpa [eC, eVar, eFrz, bV, bS, aNil, aCons, aStar, eOp, eUn, eB, eM, eCall, eIf, eAnd, eOr, eNot, eChain, eTup, eLst, deref, derefs, valsOf, tB, tAnd, tOr, tNot, tTrue, iSeq, gName, gAll, gTup, ownL, ownT, gAt, eAppend, ePopK, ePopL, eSeqM, sNext, sSeq, sDrop, sRet, sRetN, sIf, sSet, sAsg, sNew, sNever, sFor, sRetOwn, entry, entryM, outOf, wipeE, backE, aPar, putE, sPar, eSl, pNo, pInt, eIsa, isaOf, one, two, way_any, way_near, way_move, way_front, way_ring, way_ff, way_turns, eCallM] using hp, hl, rfl⟩
    · intro h
      have h : pl ≠ [] := by simpa [eC, eVar, eFrz, bV, bS, aNil, aCons, aStar, eOp, eUn, eB, eM, eCall, eIf, eAnd, eOr, eNot, eChain, eTup, eLst, deref, derefs, valsOf, tB, tAnd, tOr, tNot, tTrue, iSeq, gName, gAll, gTup, ownL, ownT, gAt, eAppend, ePopK, ePopL, eSeqM, sNext, sSeq, sDrop, sRet, sRetN, sIf, sSet, sAsg, sNew, sNever, sFor, sRetOwn, entry, entryM, outOf, wipeE, backE, aPar, putE, sPar, eSl, pNo, pInt, eIsa, isaOf, one, two, way_any, way_near, way_move, way_front, way_ring, way_ff, way_turns, eCallM] using h
      have hn : 0 < pl.length := List.length_pos_iff.mpr h
      have hs := hp.length_eq
      rw [List.length_append, List.length_range] at hs
      obtain ⟨d, l2, d1, b2, t2⟩ := take_nat hl (t := pl.length) hn (by omega)
      have sm : small (d : Int) = true := by unfold small; simp [eC, eVar, eFrz, bV, bS, aNil, aCons, aStar, eOp, eUn, eB, eM, eCall, eIf, eAnd, eOr, eNot, eChain, eTup, eLst, deref, derefs, valsOf, tB, tAnd, tOr, tNot, tTrue, iSeq, gName, gAll, gTup, ownL, ownT, gAt, eAppend, ePopK, ePopL, eSeqM, sNext, sSeq, sDrop, sRet, sRetN, sIf, sSet, sAsg, sNew, sNever, sFor, sRetOwn, entry, entryM, outOf, wipeE, backE, aPar, putE, sPar, eSl, pNo, pInt, eIsa, isaOf, one, two, way_any, way_near, way_move, way_front, way_ring, way_ff, way_turns, eCallM]; omega
      refine ⟨MB r l2 (pl.eraseIdx d) (pf ++ [pl[d]]), (pl.eraseIdx d).length, ?_, by rw [List.length_eraseIdx_of_lt d1]; omega, _, _, _, rfl, (pick_perm pf pl d1).trans hp, b2, by simp [eC, eVar, eFrz, bV, bS, aNil, aCons, aStar, eOp, eUn, eB, eM, eCall, eIf, eAnd, eOr, eNot, eChain, eTup, eLst, deref, derefs, valsOf, tB, tAnd, tOr, tNot, tTrue, iSeq, gName, gAll, gTup, ownL, ownT, gAt, eAppend, ePopK, ePopL, eSeqM, sNext, sSeq, sDrop, sRet, sRetN, sIf, sSet, sAsg, sNew, sNever, sFor, sRetOwn, entry, entryM, outOf, wipeE, backE, aPar, putE, sPar, eSl, pNo, pInt, eIsa, isaOf, one, two, way_any, way_near, way_move, way_front, way_ring, way_ff, way_turns, eCallM]⟩
      have hlt : pf.length < 16777216 := by omega
      simp [eC, eVar, eFrz, bV, bS, aNil, aCons, aStar, eOp, eUn, eB, eM, eCall, eIf, eAnd, eOr, eNot, eChain, eTup, eLst, deref, derefs, valsOf, tB, tAnd, tOr, tNot, tTrue, iSeq, gName, gAll, gTup, ownL, ownT, gAt, eAppend, ePopK, ePopL, eSeqM, sNext, sSeq, sDrop, sRet, sRetN, sIf, sSet, sAsg, sNew, sNever, sFor, sRetOwn, entry, entryM, outOf, wipeE, backE, aPar, putE, sPar, eSl, pNo, pInt, eIsa, isaOf, one, two, way_any, way_near, way_move, way_front, way_ring, way_ff, way_turns, eCallM, MB, t2, sm, ixOf_nat, d1, map_erase, hlt]
  obtain ⟨_, h1, π, l', hp, hl, rfl⟩ := loop
  refine ⟨π, l', hp, hl, ?_⟩
  have h0 : sPar [2, 3] [(.m, eB (one bList) (aCons (bV (eVar 1)) (aNil))), (.m, eLst (aNil))] [some ⟨.q, .list l⟩, some ⟨.p, rowD r⟩, none, none] = .ok (.nx, MB r l (List.range r.length) []) := by
    have := nth_map r
    have : (List.range r.length).map (fun i => PyData.int (nth r i)) = r.map .int := by
      conv => rhs; rw [← nth_map r, List.map_map]
      rfl
    simp [eC, eVar, eFrz, bV, bS, aNil, aCons, aStar, eOp, eUn, eB, eM, eCall, eIf, eAnd, eOr, eNot, eChain, eTup, eLst, deref, derefs, valsOf, tB, tAnd, tOr, tNot, tTrue, iSeq, gName, gAll, gTup, ownL, ownT, gAt, eAppend, ePopK, ePopL, eSeqM, sNext, sSeq, sDrop, sRet, sRetN, sIf, sSet, sAsg, sNew, sNever, sFor, sRetOwn, entry, entryM, outOf, wipeE, backE, aPar, putE, sPar, eSl, pNo, pInt, eIsa, isaOf, one, two, way_any, way_near, way_move, way_front, way_ring, way_ff, way_turns, eCallM, MB, this, rowD]
  simp only [g__law_mixed, defM, b__law_mixed]
  rw [if_pos ⟨rfl, by omega⟩]
  show (sSeq _ _ [some ⟨.q, .list l⟩, some ⟨.p, rowD r⟩, none, none]).bind _ = _
  rw [seq_nx h0, seq_nx h1]
  simp [eC, eVar, eFrz, bV, bS, aNil, aCons, aStar, eOp, eUn, eB, eM, eCall, eIf, eAnd, eOr, eNot, eChain, eTup, eLst, deref, derefs, valsOf, tB, tAnd, tOr, tNot, tTrue, iSeq, gName, gAll, gTup, ownL, ownT, gAt, eAppend, ePopK, ePopL, eSeqM, sNext, sSeq, sDrop, sRet, sRetN, sIf, sSet, sAsg, sNew, sNever, sFor, sRetOwn, entry, entryM, outOf, wipeE, backE, aPar, putE, sPar, eSl, pNo, pInt, eIsa, isaOf, one, two, way_any, way_near, way_move, way_front, way_ring, way_ff, way_turns, eCallM, MB, rowD, Function.comp_def]
end WP
end
section
set_option Elab.async false
set_option linter.all false
set_option maxRecDepth 100000
set_option autoImplicit false
/-! PL18: places mixed, swaps of any two. -/
namespace WP
open PySem PySem.Spec
theorem nth_ext {u v : Row} (hl : u.length = v.length) (h : ∀ i, i < u.length → nth u i = nth v i) : u = v := by
  refine List.ext_getElem hl fun i h1 h2 => ?_
  have := h i h1
  rwa [nth_get h1, nth_get h2] at this
theorem put_len (u : Row) (i j : Nat) : (putR u i j).length = u.length := by unfold putR; rw [List.length_set, List.length_set]
theorem nth_put {u : Row} {x : Nat} (i j : Nat) (h : x < u.length) : nth (putR u i j) x = if x = j then nth u i else if x = i then nth u j else nth u x := by
  rw [nth_get (by rw [put_len]; exact h)]
  unfold putR
  simp only [List.getElem_set]
  by_cases a : x = j
  · subst a; simp [eC, eVar, eFrz, bV, bS, aNil, aCons, aStar, eOp, eUn, eB, eM, eCall, eIf, eAnd, eOr, eNot, eChain, eTup, eLst, deref, derefs, valsOf, tB, tAnd, tOr, tNot, tTrue, iSeq, gName, gAll, gTup, ownL, ownT, gAt, eAppend, ePopK, ePopL, eSeqM, sNext, sSeq, sDrop, sRet, sRetN, sIf, sSet, sAsg, sNew, sNever, sFor, sRetOwn, entry, entryM, outOf, wipeE, backE, aPar, putE, sPar, eSl, pNo, pInt, eIsa, isaOf, one, two, way_any, way_near, way_move, way_front, way_ring, way_ff, way_turns, eCallM]
  · have a' : ¬ j = x := fun z => a z.symm
    by_cases b : x = i
    · subst b; simp [eC, eVar, eFrz, bV, bS, aNil, aCons, aStar, eOp, eUn, eB, eM, eCall, eIf, eAnd, eOr, eNot, eChain, eTup, eLst, deref, derefs, valsOf, tB, tAnd, tOr, tNot, tTrue, iSeq, gName, gAll, gTup, ownL, ownT, gAt, eAppend, ePopK, ePopL, eSeqM, sNext, sSeq, sDrop, sRet, sRetN, sIf, sSet, sAsg, sNew, sNever, sFor, sRetOwn, entry, entryM, outOf, wipeE, backE, aPar, putE, sPar, eSl, pNo, pInt, eIsa, isaOf, one, two, way_any, way_near, way_move, way_front, way_ring, way_ff, way_turns, eCallM, a, a']
    · have b' : ¬ i = x := fun z => b z.symm
      simp [eC, eVar, eFrz, bV, bS, aNil, aCons, aStar, eOp, eUn, eB, eM, eCall, eIf, eAnd, eOr, eNot, eChain, eTup, eLst, deref, derefs, valsOf, tB, tAnd, tOr, tNot, tTrue, iSeq, gName, gAll, gTup, ownL, ownT, gAt, eAppend, ePopK, ePopL, eSeqM, sNext, sSeq, sDrop, sRet, sRetN, sIf, sSet, sAsg, sNew, sNever, sFor, sRetOwn, entry, entryM, outOf, wipeE, backE, aPar, putE, sPar, eSl, pNo, pInt, eIsa, isaOf, one, two, way_any, way_near, way_move, way_front, way_ring, way_ff, way_turns, eCallM, a, a', b, b', nth_get h]
theorem put_comm (u : Row) (i j : Nat) : putR u i j = putR u j i := by
  refine nth_ext (by rw [put_len, put_len]) fun x hx => ?_
  rw [put_len] at hx
  rw [nth_put i j hx, nth_put j i hx]
  by_cases a : x = j <;> by_cases b : x = i
  · subst a b; simp [eC, eVar, eFrz, bV, bS, aNil, aCons, aStar, eOp, eUn, eB, eM, eCall, eIf, eAnd, eOr, eNot, eChain, eTup, eLst, deref, derefs, valsOf, tB, tAnd, tOr, tNot, tTrue, iSeq, gName, gAll, gTup, ownL, ownT, gAt, eAppend, ePopK, ePopL, eSeqM, sNext, sSeq, sDrop, sRet, sRetN, sIf, sSet, sAsg, sNew, sNever, sFor, sRetOwn, entry, entryM, outOf, wipeE, backE, aPar, putE, sPar, eSl, pNo, pInt, eIsa, isaOf, one, two, way_any, way_near, way_move, way_front, way_ring, way_ff, way_turns, eCallM]
  · simp [eC, eVar, eFrz, bV, bS, aNil, aCons, aStar, eOp, eUn, eB, eM, eCall, eIf, eAnd, eOr, eNot, eChain, eTup, eLst, deref, derefs, valsOf, tB, tAnd, tOr, tNot, tTrue, iSeq, gName, gAll, gTup, ownL, ownT, gAt, eAppend, ePopK, ePopL, eSeqM, sNext, sSeq, sDrop, sRet, sRetN, sIf, sSet, sAsg, sNew, sNever, sFor, sRetOwn, entry, entryM, outOf, wipeE, backE, aPar, putE, sPar, eSl, pNo, pInt, eIsa, isaOf, one, two, way_any, way_near, way_move, way_front, way_ring, way_ff, way_turns, eCallM, a]; intro z; rw [z]
  · simp [eC, eVar, eFrz, bV, bS, aNil, aCons, aStar, eOp, eUn, eB, eM, eCall, eIf, eAnd, eOr, eNot, eChain, eTup, eLst, deref, derefs, valsOf, tB, tAnd, tOr, tNot, tTrue, iSeq, gName, gAll, gTup, ownL, ownT, gAt, eAppend, ePopK, ePopL, eSeqM, sNext, sSeq, sDrop, sRet, sRetN, sIf, sSet, sAsg, sNew, sNever, sFor, sRetOwn, entry, entryM, outOf, wipeE, backE, aPar, putE, sPar, eSl, pNo, pInt, eIsa, isaOf, one, two, way_any, way_near, way_move, way_front, way_ring, way_ff, way_turns, eCallM, b]; intro z; rw [z]
  · simp [eC, eVar, eFrz, bV, bS, aNil, aCons, aStar, eOp, eUn, eB, eM, eCall, eIf, eAnd, eOr, eNot, eChain, eTup, eLst, deref, derefs, valsOf, tB, tAnd, tOr, tNot, tTrue, iSeq, gName, gAll, gTup, ownL, ownT, gAt, eAppend, ePopK, ePopL, eSeqM, sNext, sSeq, sDrop, sRet, sRetN, sIf, sSet, sAsg, sNew, sNever, sFor, sRetOwn, entry, entryM, outOf, wipeE, backE, aPar, putE, sPar, eSl, pNo, pInt, eIsa, isaOf, one, two, way_any, way_near, way_move, way_front, way_ring, way_ff, way_turns, eCallM, a, b]
theorem any_nbr {u : Row} {i j : Nat} (h : i ≠ j) (hi : i < u.length) (hj : j < u.length) : putR u i j ∈ nbr .any u := by
  refine mem_nbr.mpr ?_
  rcases Nat.lt_or_gt_of_ne h with z | z
  · exact ⟨i, j, z, hj, rfl⟩
  · exact ⟨j, i, z, hi, put_comm u i j⟩
section
variable {π : List Nat} {n : Nat}
def mixR (π : List Nat) (u : Row) : Row := π.map (nth u)
theorem mix_len (u : Row) (π : List Nat) : (mixR π u).length = π.length := by unfold mixR; rw [List.length_map]
theorem nth_mix {u : Row} {t : Nat} (h : t < π.length) : nth (mixR π u) t = nth u π[t] := by
  rw [nth_get (by rw [mix_len]; exact h)]
  unfold mixR; rw [List.getElem_map]
theorem perm_lt (hp : π.Perm (List.range n)) {t : Nat} (h : t < π.length) : π[t] < n := List.mem_range.mp (hp.mem_iff.mp (List.getElem_mem h))
theorem perm_at (hp : π.Perm (List.range n)) {i : Nat} (h : i < n) : ∃ a, ∃ h : a < π.length, π[a] = i := List.getElem_of_mem (hp.mem_iff.mpr (List.mem_range.mpr h))
theorem perm_inj (hp : π.Perm (List.range n)) {a b : Nat} (ha : a < π.length) (hb : b < π.length) : π[a] = π[b] ↔ a = b :=
  by
  have nd : π.Nodup := hp.nodup_iff.mpr List.nodup_range
  refine ⟨fun h => ?_, fun h => by subst h; rfl⟩
  have nd' := List.pairwise_iff_getElem.mp (List.nodup_iff_pairwise_ne.mp nd)
  rcases Nat.lt_trichotomy a b with z | z | z
  · exact absurd h (nd' a b ha hb z)
  · exact z
  · exact absurd h.symm (nd' b a hb ha z)
theorem perm_n (hp : π.Perm (List.range n)) : π.length = n := by rw [hp.length_eq, List.length_range]
theorem mix_put (hp : π.Perm (List.range n)) {u : Row} (hu : u.length = n) {a b : Nat} (ha : a < π.length) (hb : b < π.length) : mixR π (putR u π[a] π[b]) = putR (mixR π u) a b := by
  refine nth_ext (by rw [put_len, mix_len, mix_len]) fun t ht => ?_
  rw [mix_len] at ht
  have e := perm_lt hp ht
  rw [nth_mix ht, nth_put _ _ (by omega), nth_put _ _ (by rw [mix_len]; exact ht), nth_mix ha, nth_mix hb, nth_mix ht]
  simp only [perm_inj hp ht hb, perm_inj hp ht ha]
theorem mix_inj (hp : π.Perm (List.range n)) {u v : Row} (hu : u.length = n) (hv : v.length = n) (h : mixR π u = mixR π v) : u = v := by
  refine nth_ext (by omega) fun i hi => ?_
  obtain ⟨a, ha, e⟩ := perm_at hp (i := i) (by omega)
  have := congrArg (fun z => nth z a) h
  rw [nth_mix ha, nth_mix ha, e] at this
  exact this
theorem mix_perm (hp : π.Perm (List.range n)) {r : Row} (hr : r.length = n) : (mixR π r).Perm r := by
  subst hr
  have := hp.map (nth r)
  rw [nth_map] at this
  exact this
theorem nodup_map {f : Row → Row} : ∀ {l : List Row}, l.Nodup → (∀ x ∈ l, ∀ y ∈ l, f x = f y → x = y) → (l.map f).Nodup
  | [], _, _ => List.nodup_nil
  | x :: l, h, hf => by
    rw [List.nodup_cons] at h
    rw [List.map_cons, List.nodup_cons]
    refine ⟨fun hm => ?_, nodup_map h.2 fun a ha b hb => hf a (List.mem_cons_of_mem _ ha) b (List.mem_cons_of_mem _ hb)⟩
    obtain ⟨y, hy, e⟩ := List.mem_map.mp hm
    have := hf y (List.mem_cons_of_mem _ hy) x List.mem_cons_self e
    subst this
    exact h.1 hy
theorem Lab.mix (hp : π.Perm (List.range n)) {r : Row} {K : Tab} (hl : ∀ p ∈ K, p.1.length = n) (l : Lab r (nbr .any) K) : Lab (mixR π r) (nbr .any) (K.map fun p => (mixR π p.1, p.2)) := by
  have mem : ∀ v d, (v, d) ∈ (K.map fun p => (mixR π p.1, p.2)) → ∃ u, (u, d) ∈ K ∧ v = mixR π u := by
    intro v d h
    obtain ⟨p, hp, e⟩ := List.mem_map.mp h
    cases e
    exact ⟨p.1, hp, rfl⟩
  have mem' : ∀ {u d}, (u, d) ∈ K → (mixR π u, d) ∈ (K.map fun p => (mixR π p.1, p.2)) := fun h => List.mem_map.mpr ⟨_, h, rfl⟩
  constructor
  · exact mem' l.start
  · have e : (K.map fun p => (mixR π p.1, p.2)).map (·.1) = (K.map (·.1)).map (mixR π) := by rw [List.map_map, List.map_map]; rfl
    rw [e]
    refine nodup_map l.nd ?_
    intro x hx y hy h
    obtain ⟨p, hp1, rfl⟩ := List.mem_map.mp hx
    obtain ⟨q, hq1, rfl⟩ := List.mem_map.mp hy
    exact mix_inj hp (hl p hp1) (hl q hq1) h
  · intro v d h
    obtain ⟨u, hu, rfl⟩ := mem v d h
    rcases l.pred u d hu with ⟨rfl, rfl⟩ | ⟨hd, w, hw, hn⟩
    · exact .inl ⟨rfl, rfl⟩
    · refine .inr ⟨hd, mixR π w, mem' hw, ?_⟩
      obtain ⟨i, j, hij, hj, rfl⟩ := mem_nbr.mp hn
      have wl := hl _ hw
      obtain ⟨a, ha, ea⟩ := perm_at hp (i := i) (by dsimp only at wl; omega)
      obtain ⟨b, hb, eb⟩ := perm_at hp (i := j) (by dsimp only at wl; omega)
      rw [← ea, ← eb, mix_put hp wl ha hb]
      refine any_nbr (fun z => ?_) (by rw [mix_len]; exact ha) (by rw [mix_len]; exact hb)
      subst z
      omega
  · intro v d w h hn
    obtain ⟨u, hu, rfl⟩ := mem v d h
    obtain ⟨a, b, hab, hb, rfl⟩ := mem_nbr.mp hn
    rw [mix_len] at hb
    have ul : u.length = n := hl _ hu
    have ha : a < π.length := by omega
    have lt1 := perm_lt hp ha
    have lt2 := perm_lt hp hb
    obtain ⟨d', h1, h2⟩ := l.succ u d (putR u π[a] π[b]) hu (any_nbr (fun z => by have := (perm_inj hp ha hb).mp z; omega) (by omega) (by omega))
    exact ⟨d', by rw [← mix_put hp ul ha hb]; exact mem' h1, h2⟩
end
end WP
end
section
set_option Elab.async false
set_option linter.all false
set_option maxRecDepth 100000
set_option autoImplicit false
/-! PL19: small numbers told of. -/
namespace WP
open PySem PySem.Spec
theorem shown_int {x : Int} (h0 : 0 ≤ x) (h1 : x < 10000000) : (PyData.shown (.int x)).length ≤ 7 := by
  have := PyProof.Rows.toString_length_le h0 (k := 7) (by decide) (by omega)
  exact this
theorem showable_int {x : Int} (h0 : 0 ≤ x) (h1 : x < 10000000) : PyData.showable (.int x) = true := by
  have h : x.natAbs < 2 ^ 24 := by omega
  show decide (x.natAbs.log2 < 1920) = true
  rw [decide_eq_true_eq]
  by_cases z : x.natAbs = 0
  · rw [z]; decide
  · have := (Nat.log2_lt z).mpr h
    omega
theorem showable_ints : ∀ r : Row, (∀ x ∈ r, 0 ≤ x ∧ x < 10000000) → PyData.showableAll (r.map .int) = true
  | [], _ => rfl
  | x :: r, h => by
    show (PyData.showable (.int x) && PyData.showableAll (r.map .int)) = true
    rw [showable_int (h x List.mem_cons_self).1 (h x List.mem_cons_self).2, showable_ints r fun y hy => h y (List.mem_cons_of_mem _ hy)]; rfl
theorem piled_ints : ∀ r : Row, (∀ x ∈ r, 0 ≤ x ∧ x < 10000000) → piled (PyData.shownAll (r.map .int)) ≤ 9 * r.length
  | [], _ => by decide
  | x :: r, h => by
    show piled (PyData.shown (.int x) :: PyData.shownAll (r.map .int)) ≤ _
    rw [piled_cons]
    have a := shown_int (h x List.mem_cons_self).1 (h x List.mem_cons_self).2
    have b := piled_ints r fun y hy => h y (List.mem_cons_of_mem _ hy)
    rw [List.length_cons]
    omega
theorem shown_row {r : Row} (h : ∀ x ∈ r, 0 ≤ x ∧ x < 10000000) : (PyData.shown (rowD r)).length ≤ 9 * r.length + 3 := by
  have p := piled_ints r h
  show (tupleText (PyData.shownAll (r.map .int))).length ≤ _
  generalize hg : PyData.shownAll (r.map .int) = ts at p
  unfold tupleText
  rw [strLen_append, strLen_append]
  have e1 : ((("(" : String) : Str)).length = 1 := rfl
  have e3 : (((if ts.length == 1 then ",)" else ")" : String) : Str)).length ≤ 2 := by split <;> decide
  have e2 : (Str.join ", " ts).length ≤ piled ts := by
    cases ts with
    | nil => decide
    | cons t ts => have := join_length_add (t :: ts) (by simp [eC, eVar, eFrz, bV, bS, aNil, aCons, aStar, eOp, eUn, eB, eM, eCall, eIf, eAnd, eOr, eNot, eChain, eTup, eLst, deref, derefs, valsOf, tB, tAnd, tOr, tNot, tTrue, iSeq, gName, gAll, gTup, ownL, ownT, gAt, eAppend, ePopK, ePopL, eSeqM, sNext, sSeq, sDrop, sRet, sRetN, sIf, sSet, sAsg, sNew, sNever, sFor, sRetOwn, entry, entryM, outOf, wipeE, backE, aPar, putE, sPar, eSl, pNo, pInt, eIsa, isaOf, one, two, way_any, way_near, way_move, way_front, way_ring, way_ff, way_turns, eCallM]); omega
  rw [e1]; omega
theorem shown_two (x y : D) : (PyData.shown (.list [x, y])).length = x.shown.length + y.shown.length + 4 := by
  show ((((("[" : Str) ++ (("" : String) : Str) ++ x.shown) ++ ((", " : String) : Str) ++ y.shown)) ++ ("]" : Str)).length = _
  simp only [strLen_append]
  have e1 : (("[" : String) : Str).length = 1 := rfl
  have e2 : (("" : String) : Str).length = 0 := rfl
  have e3 : ((", " : String) : Str).length = 2 := rfl
  have e4 : (("]" : String) : Str).length = 1 := rfl
  omega
theorem rep_two {a b : Row} (ha : ∀ x ∈ a, 0 ≤ x ∧ x < 10000000) (hb : ∀ x ∈ b, 0 ≤ x ∧ x < 10000000) (la : a.length ≤ 100000) (lb : b.length ≤ 100000) : bRep (.list [rowD a, rowD b]) = some (.str (PyData.shown (.list [rowD a, rowD b]))) := by
  have h1 : okD (.list [rowD a, rowD b]) = true := okD_rows [a, b]
  have h2 : shOk (.list [rowD a, rowD b]) = true := by
    unfold shOk
    rw [Bool.and_eq_true, decide_eq_true_eq]
    constructor
    · show (PyData.showableAll (a.map .int) && (PyData.showableAll (b.map .int) && true)) = true
      rw [showable_ints a ha, showable_ints b hb]; rfl
    · have x := shown_row ha
      have y := shown_row hb
      rw [shown_two]; omega
  simp only [bRep]
  rw [if_pos ⟨h1, h2⟩]
end WP
end
section
set_option Elab.async false
set_option linter.all false
set_option maxRecDepth 100000
set_option autoImplicit false
/-! PL20: how far all is. -/
namespace WP
open PySem PySem.Spec
theorem count_start {s : Row} : ∀ {K : Tab}, (K.map (·.1)).Nodup → (s, (0 : Int)) ∈ K → (∀ v, (v, (0 : Int)) ∈ K → v = s) → (valsK K).count 0 = 1
  | [], _, h, _ => by cases h
  | (v, d) :: K, nd, h, hu => by
    rw [List.map_cons, List.nodup_cons] at nd
    show (d :: valsK K).count 0 = 1
    rw [List.count_cons]
    by_cases hd : d = 0
    · subst hd
      have hv := hu v List.mem_cons_self
      subst hv
      have z : (valsK K).count 0 = 0 := by
        rw [List.count_eq_zero]
        intro hm
        obtain ⟨p, hp, e⟩ := List.mem_map.mp hm
        obtain ⟨x, y⟩ := p
        dsimp only at e
        subst e
        have := hu x (List.mem_cons_of_mem _ hp)
        subst this
        exact nd.1 (List.mem_map.mpr ⟨_, hp, rfl⟩)
      rw [z]; simp [eC, eVar, eFrz, bV, bS, aNil, aCons, aStar, eOp, eUn, eB, eM, eCall, eIf, eAnd, eOr, eNot, eChain, eTup, eLst, deref, derefs, valsOf, tB, tAnd, tOr, tNot, tTrue, iSeq, gName, gAll, gTup, ownL, ownT, gAt, eAppend, ePopK, ePopL, eSeqM, sNext, sSeq, sDrop, sRet, sRetN, sIf, sSet, sAsg, sNew, sNever, sFor, sRetOwn, entry, entryM, outOf, wipeE, backE, aPar, putE, sPar, eSl, pNo, pInt, eIsa, isaOf, one, two, way_any, way_near, way_move, way_front, way_ring, way_ff, way_turns, eCallM]
    · have hm : (s, (0 : Int)) ∈ K := by
        rcases List.mem_cons.mp h with e | e
        · cases e; exact absurd rfl hd
        · exact e
      rw [count_start nd.2 hm fun x hx => hu x (List.mem_cons_of_mem _ hx)]
      simp [eC, eVar, eFrz, bV, bS, aNil, aCons, aStar, eOp, eUn, eB, eM, eCall, eIf, eAnd, eOr, eNot, eChain, eTup, eLst, deref, derefs, valsOf, tB, tAnd, tOr, tNot, tTrue, iSeq, gName, gAll, gTup, ownL, ownT, gAt, eAppend, ePopK, ePopL, eSeqM, sNext, sSeq, sDrop, sRet, sRetN, sIf, sSet, sAsg, sNew, sNever, sFor, sRetOwn, entry, entryM, outOf, wipeE, backE, aPar, putE, sPar, eSl, pNo, pInt, eIsa, isaOf, one, two, way_any, way_near, way_move, way_front, way_ring, way_ff, way_turns, eCallM, hd]
theorem Lab.one {s : Row} {N : Row → List Row} {K : Tab} (l : Lab s N K) : (valsK K).count 0 = 1 := by
  refine count_start l.nd l.start fun v hv => ?_
  rcases l.pred v 0 hv with ⟨e, _⟩ | ⟨e, _⟩
  · exact e
  · omega
theorem Lab.len {s : Row} {N : Row → List Row} {K : Tab} {U : List Row} (l : Lab s N K) (hU : ∀ p ∈ K, p.1 ∈ U) : K.length ≤ U.length := by
  have := len_le (K.map (·.1)) U l.nd fun x hx => by
    obtain ⟨p, hp, e⟩ := List.mem_map.mp hx
    rw [← e]; exact hU p hp
  rwa [List.length_map] at this
theorem spread_num (l : List Int) : ∀ x ∈ spreadOf l, 0 ≤ x ∧ x ≤ (l.length : Nat) := by
  intro x hx
  obtain ⟨k, _, rfl⟩ := List.mem_map.mp hx
  have := List.count_le_length (a := (k : Int)) (l := l)
  omega
theorem spread_len (l : List Int) : (spreadOf l).length = (maxOf l).toNat + 1 := by unfold spreadOf; rw [List.length_map, List.length_range]
theorem spread_zero (l : List Int) : nth (spreadOf l) 0 = (l.count 0 : Nat) := by
  rw [nth_get (by rw [spread_len]; omega)]
  unfold spreadOf
  rw [List.getElem_map, List.getElem_range]; rfl
section
variable {k : Nat} {r : Row}
theorem how_far (w : Way) (hI : InK k r) (hk : 2 ≤ k) (hk2 : k ≤ 4) (h1 : 1 ≤ r.length) (h2 : r.length ≤ 7) : ∃ K, Lab r (nbr w) K ∧ (∀ p ∈ K, p.1 ∈ arr k r) ∧ g_how_far [.int (k : Nat), rowD r, w.d] = .ok (rowD (spreadOf (valsK K))) := by
  obtain ⟨K, l, hU, h⟩ := spread_way (ground_arr w hI hk2 h1 h2)
  refine ⟨K, l, hU, ?_⟩
  have c := crowed_row (k := (k : Int)) (r := r) (by omega) (by omega) h1 h2 fun x hx => by
    obtain ⟨c, hc, rfl⟩ := hI x hx
    omega
  simp [eC, eVar, eFrz, bV, bS, aNil, aCons, aStar, eOp, eUn, eB, eM, eCall, eIf, eAnd, eOr, eNot, eChain, eTup, eLst, deref, derefs, valsOf, tB, tAnd, tOr, tNot, tTrue, iSeq, gName, gAll, gTup, ownL, ownT, gAt, eAppend, ePopK, ePopL, eSeqM, sNext, sSeq, sDrop, sRet, sRetN, sIf, sSet, sAsg, sNew, sNever, sFor, sRetOwn, entry, entryM, outOf, wipeE, backE, aPar, putE, sPar, eSl, pNo, pInt, eIsa, isaOf, one, two, way_any, way_near, way_move, way_front, way_ring, way_ff, way_turns, eCallM, g_how_far, defP, b_how_far, c, cway_way, h]
theorem vals_perm {K K' : Tab} (p : K.Perm K') : (valsK K).Perm (valsK K') := List.Perm.map _ p
theorem due_way (w : Way) (hI : InK k r) (hk : 2 ≤ k) (hk2 : k ≤ 4) (h2 : r.length ≤ 7) {K : Tab} (l : Lab r (nbr w) K) (hU : ∀ p ∈ K, p.1 ∈ arr k r) : ∃ d, g__law_off [rowD r, w.d] = .ok d ∧ g__law_numbers [d] = .ok (rowD (spreadOf (valsK K))) := by
  obtain ⟨K', ho, l', hU', hn⟩ := off_way (groundL_arr w hI hk2 h2)
  have pm : K.Perm K' := l.same l' (fun u v d _ _ h => steps_of_nbr h) (fun u v d _ hv h => nbr_of_steps h hv)
  obtain ⟨v1, v2, v3, v4⟩ := l'.vals
  have few := arr_few (r := r) hk2 h2
  have := l'.len hU'
  refine ⟨_, ho, ?_⟩
  rw [numbers_tab l'.nd hn (by omega) v1 v3 v4, spreadOf_perm (vals_perm pm)]
theorem mixed_same {π : List Nat} (hp : π.Perm (List.range r.length)) {K K' : Tab} (hU : ∀ p ∈ K, p.1 ∈ arr k r) (l : Lab r (nbr .any) K) (l' : Lab (mixR π r) (nbr .any) K') : spreadOf (valsK K) = spreadOf (valsK K') := by
  have lm := Lab.mix hp (fun p hp => row_len_arr (hU p hp)) l
  have pm := lm.same l' (fun _ _ _ _ _ h => h) (fun _ _ _ _ _ h => h)
  have e : valsK (K.map fun p => (mixR π p.1, p.2)) = valsK K := by unfold valsK; rw [List.map_map]; rfl
  rw [← e]
  exact spreadOf_perm (vals_perm pm)
theorem ne_str (x : Str) : opNe (.str x) (.str x) = some (.bool false) := by simp [eC, eVar, eFrz, bV, bS, aNil, aCons, aStar, eOp, eUn, eB, eM, eCall, eIf, eAnd, eOr, eNot, eChain, eTup, eLst, deref, derefs, valsOf, tB, tAnd, tOr, tNot, tTrue, iSeq, gName, gAll, gTup, ownL, ownT, gAt, eAppend, ePopK, ePopL, eSeqM, sNext, sSeq, sDrop, sRet, sRetN, sIf, sSet, sAsg, sNew, sNever, sFor, sRetOwn, entry, entryM, outOf, wipeE, backE, aPar, putE, sPar, eSl, pNo, pInt, eIsa, isaOf, one, two, way_any, way_near, way_move, way_front, way_ring, way_ff, way_turns, eCallM, opNe]
theorem ne_rowsD (l : List Row) : opNe (rowsD l) (rowsD l) = some (.bool false) := by
  have h : ∀ l : List Row, PyData.eqvAll (l.map rowD) (l.map rowD) = true := by
    intro l
    induction l with
    | nil => rfl
    | cons x l ih =>
      show (PyData.eqv (rowD x) (rowD x) && PyData.eqvAll (l.map rowD) (l.map rowD)) = true
      rw [eqv_row, ih]; simp [eC, eVar, eFrz, bV, bS, aNil, aCons, aStar, eOp, eUn, eB, eM, eCall, eIf, eAnd, eOr, eNot, eChain, eTup, eLst, deref, derefs, valsOf, tB, tAnd, tOr, tNot, tTrue, iSeq, gName, gAll, gTup, ownL, ownT, gAt, eAppend, ePopK, ePopL, eSeqM, sNext, sSeq, sDrop, sRet, sRetN, sIf, sSet, sAsg, sNew, sNever, sFor, sRetOwn, entry, entryM, outOf, wipeE, backE, aPar, putE, sPar, eSl, pNo, pInt, eIsa, isaOf, one, two, way_any, way_near, way_move, way_front, way_ring, way_ff, way_turns, eCallM]
  have h' : PyData.eqv (rowsD l) (rowsD l) = true := h l
  have o : okD (rowsD l) = true := okD_rows l
  simp only [opNe, o, and_self, if_true, h']; rfl
theorem eq_row (x : Row) : opEq (rowD x) (rowD x) = some (.bool true) := by simp [eC, eVar, eFrz, bV, bS, aNil, aCons, aStar, eOp, eUn, eB, eM, eCall, eIf, eAnd, eOr, eNot, eChain, eTup, eLst, deref, derefs, valsOf, tB, tAnd, tOr, tNot, tTrue, iSeq, gName, gAll, gTup, ownL, ownT, gAt, eAppend, ePopK, ePopL, eSeqM, sNext, sSeq, sDrop, sRet, sRetN, sIf, sSet, sAsg, sNew, sNever, sFor, sRetOwn, entry, entryM, outOf, wipeE, backE, aPar, putE, sPar, eSl, pNo, pInt, eIsa, isaOf, one, two, way_any, way_near, way_move, way_front, way_ring, way_ff, way_turns, eCallM, opEq]
theorem far_rep {K : Tab} {N : Row → List Row} (l : Lab r N K) (hU : ∀ p ∈ K, p.1 ∈ arr k r) (hk2 : k ≤ 4) (h2 : r.length ≤ 7) : bRep (.list [rowD (spreadOf (valsK K)), rowD (spreadOf (valsK K))]) = some (.str (PyData.shown (.list [rowD (spreadOf (valsK K)), rowD (spreadOf (valsK K))]))) := by
  have few : (arr k r).length ≤ 16384 := few_rows r hk2 h2
  have a := l.len hU
  obtain ⟨_, _, v3, _⟩ := l.vals
  have b : ∀ x ∈ spreadOf (valsK K), 0 ≤ x ∧ x < 10000000 := fun x hx => by
    have := spread_num _ x hx
    unfold valsK at this
    rw [List.length_map] at this
    omega
  have c : (spreadOf (valsK K)).length ≤ 100000 := by rw [spread_len]; omega
  exact rep_two b b c c
end
end WP
end
section
set_option Elab.async false
set_option linter.all false
set_option maxRecDepth 100000
set_option autoImplicit false
/-! PL21: one turn, the law. -/
namespace WP
open PySem PySem.Spec
def RT (l : List D) (k : Nat) (r : Row) (w du rw : Option Sl) : Env := [some ⟨.q, .list l⟩, some ⟨.p, .int (k : Nat)⟩, some ⟨.p, rowD r⟩, w, du, rw]
theorem right_bag {l : List D} (hb : IsBag l) : ∃ l', IsBag l' ∧ g__law_right l [] = .ok (.bool true, l') := by
  obtain ⟨k, r, l1, hk, hk2, h1, h2, hI, b1, t1⟩ := row_bag hb (m := 5) (by decide) (by decide)
  obtain ⟨w, l2, b2, t2⟩ := way_bag b1
  obtain ⟨K, L, hU, hf⟩ := how_far w hI hk hk2 h1 (by omega)
  obtain ⟨dd, ho, hn⟩ := due_way w hI hk hk2 (by omega) L hU
  obtain ⟨KA, LA, hUA, hfA⟩ := how_far .any hI hk hk2 h1 (by omega)
  obtain ⟨π, l3, hp, b3, t3⟩ := mixed_bag b2 (r := r) (by omega)
  have hpm : (mixR π r).Perm r := mix_perm hp rfl
  have hIM : InK k (mixR π r) := fun y hy => hI y (hpm.mem_iff.mp hy)
  obtain ⟨KM, LM, hUM, hfM⟩ := how_far (r := mixR π r) .any hIM hk hk2 (by rw [hpm.length_eq]; exact h1) (by rw [hpm.length_eq]; omega)
  have same := mixed_same hp hUA LA LM
  have rep := far_rep L hU hk2 (by omega)
  have hnn : ∀ x ∈ valsK K, 0 ≤ x := L.vals.2.1
  have hsum : bSum (rowD (spreadOf (valsK K))) = some (.int ((arr k r).length : Nat)) := by
    rw [sum_row, sum_spread hnn, ← L.full hI hU]
    unfold valsK; rw [List.length_map]
  have hix : opIx (rowD (spreadOf (valsK K))) (.int 0) = some (.int 1) := by
    have e := ix_get (r := spreadOf (valsK K)) (i := 0) (by rw [spread_len]; omega)
    rw [spread_zero, L.one] at e
    exact e
  have hall := allRows_way hI hk hk2 h1 (by omega)
  have hlaw := law_rows hI hk2 (by omega : r.length ≤ 7)
  have hamt := lawAmounts r (by omega : k ≤ 1000)
  refine ⟨l3, b3, ?_⟩
  have t1' : g__law_row l [.int 5] = .ok (.tuple [.int (k : Nat), rowD r], l1) := t1
  have t3' : g__law_mixed l2 [rowD r] = .ok (rowD (mixR π r), l3) := t3
  have hfA' : g_how_far [.int (k : Nat), rowD r, .str "any"] = .ok (rowD (spreadOf (valsK KA))) := hfA
  have hfM' : g_how_far [.int (k : Nat), rowD (mixR π r), .str "any"] = .ok (rowD (spreadOf (valsK KA))) := by rw [same]; exact hfM
  have hne : opNe (.list ((arr k r).map rowD)) (rowsD (arr k r)) = some (.bool false) := ne_rowsD (arr k r)
  simp [eC, eVar, eFrz, bV, bS, aNil, aCons, aStar, eOp, eUn, eB, eM, eCall, eIf, eAnd, eOr, eNot, eChain, eTup, eLst, deref, derefs, valsOf, tB, tAnd, tOr, tNot, tTrue, iSeq, gName, gAll, gTup, ownL, ownT, gAt, eAppend, ePopK, ePopL, eSeqM, sNext, sSeq, sDrop, sRet, sRetN, sIf, sSet, sAsg, sNew, sNever, sFor, sRetOwn, entry, entryM, outOf, wipeE, backE, aPar, putE, sPar, eSl, pNo, pInt, eIsa, isaOf, one, two, way_any, way_near, way_move, way_front, way_ring, way_ff, way_turns, eCallM, g__law_right, defM, b__law_right, entryM, t1', t2, hf, ho, hn, eCallK, pick, rep, ne_str, hamt, hall, hlaw, hne, hsum, ne_int, hix, hfA', hfM', t3', eq_row]
def LE (ns : List Int) (p b : Option Sl) : Env := [some ⟨.p, .list (ns.map .int)⟩, p, b, none]
theorem all_true (vs : List D) (h : ∀ v ∈ vs, v = .bool true) : bAll (.list vs) = some (.bool true) := by
  have e : vs = vs.map fun _ => PyData.bool true := by
    conv => lhs; rw [← List.map_id vs]
    exact List.map_congr_left fun v hv => h v hv
  rw [e]
  have := all_map (fun _ : D => true) vs
  rw [this]
  simp [eC, eVar, eFrz, bV, bS, aNil, aCons, aStar, eOp, eUn, eB, eM, eCall, eIf, eAnd, eOr, eNot, eChain, eTup, eLst, deref, derefs, valsOf, tB, tAnd, tOr, tNot, tTrue, iSeq, gName, gAll, gTup, ownL, ownT, gAt, eAppend, ePopK, ePopL, eSeqM, sNext, sSeq, sDrop, sRet, sRetN, sIf, sSet, sAsg, sNew, sNever, sFor, sRetOwn, entry, entryM, outOf, wipeE, backE, aPar, putE, sPar, eSl, pNo, pInt, eIsa, isaOf, one, two, way_any, way_near, way_move, way_front, way_ring, way_ff, way_turns, eCallM]
theorem law_laps (ns : List Int) : iRange1 (eB (two bMax2) (aCons (bV (eC (.int 2))) (aCons (bV (eB (two bMin2) (aCons (bV (eB (one bLen) (aCons (bV (eVar 0)) (aNil)))) (aCons (bV (eC (.int 3))) (aNil))))) (aNil)))) (LE ns none none) = .ok ((List.range (if 3 ≤ ns.length then 3 else 2)).map (fun i : Nat => PyData.int (i : Nat)), LE ns none none) := by
  refine range1_of ?_ (by split <;> omega)
  by_cases a : 3 < ns.length
  · have a' : (3 : Int) < (ns.length : Nat) := by omega
    have b : 3 ≤ ns.length := by omega
    simp [eC, eVar, eFrz, bV, bS, aNil, aCons, aStar, eOp, eUn, eB, eM, eCall, eIf, eAnd, eOr, eNot, eChain, eTup, eLst, deref, derefs, valsOf, tB, tAnd, tOr, tNot, tTrue, iSeq, gName, gAll, gTup, ownL, ownT, gAt, eAppend, ePopK, ePopL, eSeqM, sNext, sSeq, sDrop, sRet, sRetN, sIf, sSet, sAsg, sNew, sNever, sFor, sRetOwn, entry, entryM, outOf, wipeE, backE, aPar, putE, sPar, eSl, pNo, pInt, eIsa, isaOf, one, two, way_any, way_near, way_move, way_front, way_ring, way_ff, way_turns, eCallM, LE, a', b]
  · have a' : ¬ (3 : Int) < (ns.length : Nat) := by omega
    by_cases b : 3 ≤ ns.length
    · have c : (2 : Int) < (ns.length : Nat) := by omega
      have d : ((ns.length : Nat) : Int) = 3 := by omega
      simp [eC, eVar, eFrz, bV, bS, aNil, aCons, aStar, eOp, eUn, eB, eM, eCall, eIf, eAnd, eOr, eNot, eChain, eTup, eLst, deref, derefs, valsOf, tB, tAnd, tOr, tNot, tTrue, iSeq, gName, gAll, gTup, ownL, ownT, gAt, eAppend, ePopK, ePopL, eSeqM, sNext, sSeq, sDrop, sRet, sRetN, sIf, sSet, sAsg, sNew, sNever, sFor, sRetOwn, entry, entryM, outOf, wipeE, backE, aPar, putE, sPar, eSl, pNo, pInt, eIsa, isaOf, one, two, way_any, way_near, way_move, way_front, way_ring, way_ff, way_turns, eCallM, LE, a', b, c, d]
    · have c : ¬ (2 : Int) < (ns.length : Nat) := by omega
      simp [eC, eVar, eFrz, bV, bS, aNil, aCons, aStar, eOp, eUn, eB, eM, eCall, eIf, eAnd, eOr, eNot, eChain, eTup, eLst, deref, derefs, valsOf, tB, tAnd, tOr, tNot, tTrue, iSeq, gName, gAll, gTup, ownL, ownT, gAt, eAppend, ePopK, ePopL, eSeqM, sNext, sSeq, sDrop, sRet, sRetN, sIf, sSet, sAsg, sNew, sNever, sFor, sRetOwn, entry, entryM, outOf, wipeE, backE, aPar, putE, sPar, eSl, pNo, pInt, eIsa, isaOf, one, two, way_any, way_near, way_move, way_front, way_ring, way_ff, way_turns, eCallM, LE, a', b, c]
theorem law_turns (ns : List Int) (p : Nat) {l : List D} (hb : IsBag l) : ∃ l', IsBag l' ∧ eB (one bAll) (aCons (bV (eComp [3] (iRange1 (eC (.int 8))) (WP.gName 3) (tTrue) (eCallM g__law_right 2 (aNil)))) (aNil)) (LE ns (some ⟨.p, .int (p : Nat)⟩) (some ⟨.m, .list l⟩)) = .ok (.bool true, LE ns (some ⟨.p, .int (p : Nat)⟩) (some ⟨.m, .list l'⟩)) := by
  obtain ⟨vs, E', h1, h2, h3, l', h4, rfl⟩ := eComp_inv (own := [3]) (it := iRange1 (eC (.int 8))) (g := WP.gName 3) (f := eCallM g__law_right 2 (aNil)) (env := LE ns (some ⟨.p, .int (p : Nat)⟩) (some ⟨.m, .list l⟩)) (env1 := LE ns (some ⟨.p, .int (p : Nat)⟩) (some ⟨.m, .list l⟩))
    (fun e => ∃ l', IsBag l' ∧ e = LE ns (some ⟨.p, .int (p : Nat)⟩) (some ⟨.m, .list l'⟩)) (fun v => v = .bool true) (fun i : Nat => PyData.int (i : Nat)) (ys := List.range 8) (range1_of (n := 8) rfl (by decide)) (by decide) ⟨l, hb, rfl⟩ (by
      rintro y _ e ⟨l1, b1, rfl⟩
      obtain ⟨l2, b2, t2⟩ := right_bag b1
      exact ⟨_, [some ⟨.p, .list (ns.map .int)⟩, some ⟨.p, .int (p : Nat)⟩, some ⟨.m, .list l2⟩, some ⟨.p, .int (y : Nat)⟩], .bool true, rfl, by simp [eC, eVar, eFrz, bV, bS, aNil, aCons, aStar, eOp, eUn, eB, eM, eCall, eIf, eAnd, eOr, eNot, eChain, eTup, eLst, deref, derefs, valsOf, tB, tAnd, tOr, tNot, tTrue, iSeq, gName, gAll, gTup, ownL, ownT, gAt, eAppend, ePopK, ePopL, eSeqM, sNext, sSeq, sDrop, sRet, sRetN, sIf, sSet, sAsg, sNew, sNever, sFor, sRetOwn, entry, entryM, outOf, wipeE, backE, aPar, putE, sPar, eSl, pNo, pInt, eIsa, isaOf, one, two, way_any, way_near, way_move, way_front, way_ring, way_ff, way_turns, eCallM, LE, t2], rfl, l2, b2, by simp [eC, eVar, eFrz, bV, bS, aNil, aCons, aStar, eOp, eUn, eB, eM, eCall, eIf, eAnd, eOr, eNot, eChain, eTup, eLst, deref, derefs, valsOf, tB, tAnd, tOr, tNot, tTrue, iSeq, gName, gAll, gTup, ownL, ownT, gAt, eAppend, ePopK, ePopL, eSeqM, sNext, sSeq, sDrop, sRet, sRetN, sIf, sSet, sAsg, sNew, sNever, sFor, sRetOwn, entry, entryM, outOf, wipeE, backE, aPar, putE, sPar, eSl, pNo, pInt, eIsa, isaOf, one, two, way_any, way_near, way_move, way_front, way_ring, way_ff, way_turns, eCallM, LE]⟩)
  refine ⟨l', h4, ?_⟩
  simp only [eB, aCons, bV, aNil, h1, ok_bind]
  simp [eC, eVar, eFrz, bV, bS, aNil, aCons, aStar, eOp, eUn, eB, eM, eCall, eIf, eAnd, eOr, eNot, eChain, eTup, eLst, deref, derefs, valsOf, tB, tAnd, tOr, tNot, tTrue, iSeq, gName, gAll, gTup, ownL, ownT, gAt, eAppend, ePopK, ePopL, eSeqM, sNext, sSeq, sDrop, sRet, sRetN, sIf, sSet, sAsg, sNew, sNever, sFor, sRetOwn, entry, entryM, outOf, wipeE, backE, aPar, putE, sPar, eSl, pNo, pInt, eIsa, isaOf, one, two, way_any, way_near, way_move, way_front, way_ring, way_ff, way_turns, eCallM, all_true vs h3, LE]
theorem law_true (ns : List Int) (h : ns.length ≤ 63) : g_law [.list (ns.map .int)] = .ok (.bool true) := by
  have loop : ∃ e', sFor [1, 2] (iRange1 (eB (two bMax2) (aCons (bV (eC (.int 2))) (aCons (bV (eB (two bMin2) (aCons (bV (eB (one bLen) (aCons (bV (eVar 0)) (aNil)))) (aCons (bV (eC (.int 3))) (aNil))))) (aNil))))) (WP.gName 1) (sSeq (sNew 2 .m (eCall g__law_bag (aCons (bV (eVar 0)) (aCons (bV (eVar 1)) (aNil))))) (sIf (WP.tNot (WP.tB (eB (one bAll) (aCons (bV (eComp [3] (iRange1 (eC (.int 8))) (WP.gName 3) (tTrue) (eCallM g__law_right 2 (aNil)))) (aNil))))) (sRet (eC (.bool false))) (sNext))) (LE ns none none) = .ok (.nx, e') ∧ e' = LE ns none none := by
    refine sFor_inv (fun i : Nat => PyData.int (i : Nat)) (fun _ e => e = LE ns none none) (law_laps ns) rfl ?_
    rintro ds y rest e hd rfl
    have hy := (range_mem hd).1
    have hy3 : y < 1000 := by
      split at hy <;> omega
    obtain ⟨l, b, t⟩ := law_bag ns y hy3
    obtain ⟨l', b', t'⟩ := law_turns ns y b
    refine ⟨_, LE ns (some ⟨.p, .int (y : Nat)⟩) (some ⟨.m, .list l'⟩), rfl, ?_, by simp [eC, eVar, eFrz, bV, bS, aNil, aCons, aStar, eOp, eUn, eB, eM, eCall, eIf, eAnd, eOr, eNot, eChain, eTup, eLst, deref, derefs, valsOf, tB, tAnd, tOr, tNot, tTrue, iSeq, gName, gAll, gTup, ownL, ownT, gAt, eAppend, ePopK, ePopL, eSeqM, sNext, sSeq, sDrop, sRet, sRetN, sIf, sSet, sAsg, sNew, sNever, sFor, sRetOwn, entry, entryM, outOf, wipeE, backE, aPar, putE, sPar, eSl, pNo, pInt, eIsa, isaOf, one, two, way_any, way_near, way_move, way_front, way_ring, way_ff, way_turns, eCallM, LE]⟩
    have s1 : sNew 2 .m (eCall g__law_bag (aCons (bV (eVar 0)) (aCons (bV (eVar 1)) (aNil)))) (LE ns (some ⟨.p, .int (y : Nat)⟩) none) = .ok (.nx, LE ns (some ⟨.p, .int (y : Nat)⟩) (some ⟨.m, .list l⟩)) := by simp [eC, eVar, eFrz, bV, bS, aNil, aCons, aStar, eOp, eUn, eB, eM, eCall, eIf, eAnd, eOr, eNot, eChain, eTup, eLst, deref, derefs, valsOf, tB, tAnd, tOr, tNot, tTrue, iSeq, gName, gAll, gTup, ownL, ownT, gAt, eAppend, ePopK, ePopL, eSeqM, sNext, sSeq, sDrop, sRet, sRetN, sIf, sSet, sAsg, sNew, sNever, sFor, sRetOwn, entry, entryM, outOf, wipeE, backE, aPar, putE, sPar, eSl, pNo, pInt, eIsa, isaOf, one, two, way_any, way_near, way_move, way_front, way_ring, way_ff, way_turns, eCallM, LE, t]
    show sSeq _ _ (LE ns (some ⟨.p, .int (y : Nat)⟩) none) = _
    rw [seq_nx s1]
    simp only [sIf, tNot, tB, t', ok_bind]
    rfl
  obtain ⟨_, h1, rfl⟩ := loop
  simp only [g_law, defP, b_law]
  rw [if_pos ⟨rfl, by omega⟩]
  show outOf (sSeq _ _ (LE ns none none)) = _
  rw [seq_nx h1]
  rfl
end WP
end
theorem PySem.Challenge.cw_wrongplaces_k58_whole_spreads_holds : PySem.Challenge.rw_wrongplaces_k58_whole_spreads.Holds :=
  WP.holds_of WP.law_true
