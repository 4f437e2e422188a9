import PyProof.Rows.All
import Wide.All
import OpenK.AllK
import Wide.FinOn
import HandS.ForMost
import HandS.Wide
import HandS.IsInst
import HandS.TupAny
import HandS.Flow
import HandS.Style
import HandS.TupMul
import KE.KUnpackStar
import HandS.ExcInit
import HandS.ExcInitHot
import HandS.ExcOwn
import HandS.ClsMeth
import KE.KExcInit
import HandS.TryMany
import KE.KTryMore
import HandS.Exc
import HandS.ExcCtx
import HandS.HotCalls
import HandS.ExcIs
import HandS.ExcField
import KE.KExcIs
import HandS.More
import HandS.Zip
import PyProof.Rows.CallKwBuiltin
import KE.KItemsList
import PyProof.EnumMake
import PyProof.EnumFor
import PyProof.Rows.EnumRows
import HandS.NoneIn
import HandS.ListItems
import HandS.Words
import HandS.Defaults
import HandS.Ends
import HandS.HeadEnd
import HandS.Head0
import HandS.Head1
import HandS.Head2
import HandS.HeadHook1
import HandS.HeadHook2
import PyProof.ReprLen
import PyProof.P3Eq
import KE.KStateDown
import PySem.Challenge.RW_tiedscenes_k59_film_frames
set_option Elab.async false
set_option linter.all false
section
/-! A small language of my own (E, Ss) with a plain evaluator over data; EvSnd shows that the model of Python follows it. -/
namespace Ev
open PySem L2

abbrev D := PyData
/-- what a name may hold: data, a mutable thing of the store, a caught exception (its class, its fields) -/
inductive Vl where
  | d (x : D)
  | r (n : Nat)
  | x (c : Str) (fs : List (Str × D))
inductive Ob where
  | lst (xs : List D)
  | dic (kvs : List (Key × D))
abbrev Sto := List Ob
inductive Res (α : Type) where
  | ok (a : α) (s : Sto)
  | ex (c : Str) (fs : List (Str × D)) (s : Sto)
  | no
def Res.bnd {α β : Type} : Res α → (α → Sto → Res β) → Res β
  | .ok a s, f => f a s
  | .ex c fs s, _ => .ex c fs s
  | .no, _ => .no
@[simp] theorem bnd_ex {α β : Type} (c : Str) (fs : List (Str × D)) (s : Sto) (f : α → Sto → Res β) : (Res.ex c fs s : Res α).bnd f = .ex c fs s := rfl
/-- where nothing may be raised -/
def Res.calm {α : Type} : Res α → Res α
  | .ok a s => .ok a s
  | .ex _ _ _ => .no
  | .no => .no
@[simp] theorem calm_ok {α : Type} (a : α) (s : Sto) : (Res.ok a s).calm = .ok a s := rfl
@[simp] theorem bnd_ok {α β : Type} (a : α) (s : Sto) (f : α → Sto → Res β) : (Res.ok a s).bnd f = f a s := rfl
@[simp] theorem bnd_no {α β : Type} (f : α → Sto → Res β) : (Res.no : Res α).bnd f = .no := rfl
/-- by a truth -/
def sel {α : Type} (o : Option Bool) (a b : Res α) : Res α := match o with
  | some true => a
  | some false => b
  | none => .no
@[simp] theorem sel_tt {α : Type} (a b : Res α) : sel (some true) a b = a := rfl
@[simp] theorem sel_ff {α : Type} (a b : Res α) : sel (some false) a b = b := rfl
@[simp] theorem sel_no {α : Type} (a b : Res α) : sel none a b = .no := rfl
abbrev Envr := List (Option Vl)

inductive Op where
  | add | sub | mul | fdiv | mod | pow
  deriving DecidableEq
inductive Cp where
  | eq | ne | lt | le | gt | ge | isN | notN | inn | nin
  deriving DecidableEq
inductive Bi where
  | len | abs | repr | min | max | tuple | list | int | all | any | sum
  deriving DecidableEq
inductive Mt where
  | append | count | extend | pop | insert
  deriving DecidableEq
inductive Ty where
  | int | bool | str | list | tuple
  deriving DecidableEq
/-- where a parameter's value comes from: the i-th that is written, a default -/
inductive KA where
  | ix (i : Nat) | int (n : Int) | non | cst (i : Nat) | pr (a b : Int)
  deriving DecidableEq
mutual
inductive G where
  | var (i : Nat)
  | tup (gs : Gs)
  | tupS (i : Nat) (gs : Gs)
inductive Gs where
  | nil
  | cons (g : G) (r : Gs)
end
mutual
inductive E where
  | var (i : Nat) | int (n : Int) | bl (b : Bool) | non | str (x : Str)
  | cst (i : Nat)
  | bin (op : Op) (a b : E) | neg (a : E) | nt (a : E)
  | cmp (op : Cp) (a b : E) | cmp2 (op op' : Cp) (a b c : E)
  | and (a b : E) | or (a b : E) | ifx (c a b : E)
  | tup (es : Es) | lst (es : Es) | lstS (es : Es)
  | dicS (ks : List Str) (vs : Es)
  | sub (a i : E) | dget (a i : E) | slc (a lo hi : E) | rev (a : E) | nil | own (a : E)
  | call (f : Nat) (es : Es) | bi (b : Bi) (es : Es) | isin (e : E) (t : Ty)
  | lc (elt : E) (g : G) (it : It) (c : E) (own : List Nat) (sto : Bool)
  | mth (m : Mt) (o : E) (es : Es)
  | lzip (a b : E) (s : Bool)
  | callk (j f : Nat) (arr : List KA) (es ks : Es)
  | isx (e : E) (ns : List Str) | fld (e : E) (f : Str)
inductive Es where
  | nil
  | cons (e : E) (r : Es)
inductive It where
  | val (e : E)
  | rng1 (b : E)
  | rng2 (a b : E)
  | rng3 (a b c : E)
  | zip (a b : E) (s : Bool)
  | enu (e : E)
  | ezip (a b : E) (s : Bool)
  | chr (e : E)
end
mutual
inductive S where
  | expr (e : E) | asg (g : G) (e : E) | par (is : List Nat) (es : Es) | put (o i e : E) | dput (o i e : E) | ifs (c : E) (a b : Ss) | whl (c : E) (b : Ss)
  | forr (g : G) (it : It) (b : Ss) | ret (e : E) | pass | brk | cnt
  | rais (c : Str) (fs : List Str) (es : Es) | tryx (b : S) (hs : Hs)
  | aug (i : Nat) (op : Op) (e : E) | rett (es : Es)
inductive Ss where
  | nil
  | cons (s : S) (r : Ss)
inductive Hs where
  | nil
  | cons (ns : List Str) (i : Option Nat) (b : Ss) (r : Hs)
end

/-! ### data -/
def rd (st : Sto) : Vl → Option D
  | .d x => some x
  | .r n => match st[n]? with
    | some (.lst xs) => some (.list xs)
    | _ => none
  | .x _ _ => none
def scalD : D → D → Bool
  | .none, .none => true | .bool _, .bool _ => true | .int _, .int _ => true | .str _, .str _ => true
  | _, _ => false
def eqD (a b : D) : Option Bool := if scalD a b || (SeqAt.shaped a && SeqAt.shaped b) then some (PyData.eqv a b) else none
def binD : Op → D → D → Option D
  | .add, .int a, .int b => some (.int (a + b))
  | .add, .str a, .str b => if a.length + b.length ≤ sizeLine then some (.str (a ++ b)) else none
  | .add, .list a, .list b => if a.length + b.length ≤ sizeLine then some (.list (a ++ b)) else none
  | .add, .tuple a, .tuple b => if a.length + b.length ≤ sizeLine then some (.tuple (a ++ b)) else none
  | .sub, .int a, .int b => some (.int (a - b))
  | .mul, .int a, .int b => if a.natAbs.log2 + b.natAbs.log2 < 1000000 then some (.int (a * b)) else none
  | .fdiv, .int a, .int b => if 0 < b ∧ b.natAbs.log2 < 9000 then some (.int (a / b)) else none
  | .mod, .int a, .int b => if 0 < b then some (.int (a % b)) else none
  | .mul, .list xs, .int k => if 0 ≤ k ∧ k ≤ 1000 ∧ xs.length ≤ 1000 then some (.list (List.replicate k.toNat xs).flatten) else none
  | .mul, .tuple xs, .int k => if xs ≠ [] ∧ 2 ≤ k ∧ k ≤ 1000 ∧ xs.length ≤ 1000 then some (.tuple (List.replicate k.toNat xs).flatten) else none
  | .pow, .int a, .int b => if 0 ≤ b ∧ b ≤ 1000000 ∧ a.natAbs < 2 ^ 64 then some (.int (a ^ b.toNat)) else none
  | _, _, _ => none
def truD : D → Option Bool
  | .none => some false
  | .bool b => some b
  | .int i => some (i != 0)
  | .str x => if x.length ≤ sizeLine then some ((x.length : Int) != 0) else none
  | .list xs => some (!xs.isEmpty)
  | .tuple xs => some (!xs.isEmpty)
  | .dict _ => none
def flatD : D → Bool
  | .none | .bool _ | .int _ | .str _ => true
  | _ => false
def cmpD : Cp → D → D → Option Bool
  | .eq, a, b => eqD a b
  | .ne, a, b => (eqD a b).map (!·)
  | .lt, .int a, .int b => some (decide (a < b))
  | .le, .int a, .int b => some (decide (a ≤ b))
  | .gt, .int a, .int b => some (decide (b < a))
  | .ge, .int a, .int b => some (decide (b ≤ a))
  | .isN, a, .none => some (match a with | .none => true | _ => false)
  | .notN, a, .none => some (match a with | .none => false | _ => true)
  | .isN, .bool a, .bool b => some (decide (a = b))
  | .notN, .bool a, .bool b => some (!decide (a = b))
  | .inn, a, .list xs => if flatD a && xs.all flatD then some (xs.any fun y => PyData.eqv y a) else none
  | .inn, a, .tuple xs => if flatD a && xs.all flatD then some (xs.any fun y => PyData.eqv y a) else none
  | .nin, a, .list xs => if flatD a && xs.all flatD then some (!xs.any fun y => PyData.eqv y a) else none
  | .nin, a, .tuple xs => if flatD a && xs.all flatD then some (!xs.any fun y => PyData.eqv y a) else none
  | .inn, .str a, .str z => if a.cps.size = 1 then some (decide (a.cps.toList.headD 0 ∈ z.cps.toList)) else none
  | .nin, .str a, .str z => if a.cps.size = 1 then some (!decide (a.cps.toList.headD 0 ∈ z.cps.toList)) else none
  | _, _, _ => none
def subD : D → D → Option D
  | .list xs, .int i => atI xs i
  | .tuple xs, .int i => atI xs i
  | .str z, .int i => if z.length ≤ sizeLine then (atI z.cps.toList i).map fun c => .str ⟨#[c]⟩ else none
  | _, _ => none
def cutD (xs : List D) (lo hi : Option Int) : List D := (xs.drop (HT.sIx xs.length 0 lo)).take (HT.sIx xs.length xs.length hi - HT.sIx xs.length 0 lo)
def slcD : D → Option Int → Option Int → Option D
  | .list xs, lo, hi => some (.list (cutD xs lo hi))
  | .tuple xs, lo, hi => some (.tuple (cutD xs lo hi))
  | _, _, _ => none
def intsD : List D → Option (List Int)
  | [] => some []
  | .int i :: r => (intsD r).map (i :: ·)
  | _ => none
def blsD : List D → Option (List Bool)
  | [] => some []
  | .bool i :: r => (blsD r).map (i :: ·)
  | _ => none
def showD (x : D) : Option D := if x.showable && !x.hasDict && decide (x.depth ≤ 64) && decide (x.shown.length ≤ sizeLine) then some (.str x.shown) else none
def biD : Bi → List D → Option D
  | .len, [.list xs] => some (.int xs.length)
  | .len, [.tuple xs] => some (.int xs.length)
  | .len, [.str x] => if x.length ≤ sizeLine then some (.int x.length) else none
  | .abs, [.int i] => some (.int (if i < 0 then -i else i))
  | .repr, [x] => showD x
  | .min, [.int i, .int j] => some (.int (if j < i then j else i))
  | .max, [.int i, .int j] => some (.int (if j > i then j else i))
  | .tuple, [.list xs] => some (.tuple xs)
  | .tuple, [.tuple xs] => some (.tuple xs)
  | .list, [.list xs] => some (.list xs)
  | .list, [.tuple xs] => some (.list xs)
  | .int, [.int i] => some (.int i)
  | .int, [.bool b] => some (.int (if b then 1 else 0))
  | .all, [.list xs] => (blsD xs).map fun bs => .bool (bs.all id)
  | .any, [.list xs] => (blsD xs).map fun bs => .bool (bs.any id)
  | .sum, [.list xs] => (intsD xs).map fun ns => .int ns.sum
  | .min, [.list xs] => match intsD xs with
    | some (n :: ns) => some (.int (ns.foldl min n))
    | _ => none
  | .max, [.list xs] => match intsD xs with
    | some (n :: ns) => some (.int (ns.foldl max n))
    | _ => none
  | _, _ => none
def isTy : Ty → D → Bool
  | .int, .int _ => true
  | .int, .bool _ => true
  | .bool, .bool _ => true
  | .str, .str _ => true
  | .list, .list _ => true
  | .tuple, .tuple _ => true
  | _, _ => false
def getK (kvs : List (Key × D)) (k : Key) : Option D := (kvs.find? fun kv => decide (kv.1 = k)).map (·.2)
def putD (kvs : List (Key × D)) (k : Key) (v : D) : List (Key × D) :=
  if kvs.any fun kv => decide (kv.1 = k) then kvs.map fun kv => if kv.1 = k then (kv.1, v) else kv else kvs ++ [(k, v)]
def keyD : D → Option Key
  | .int i => some (.inl i)
  | .str x => some (.inr x)
  | _ => none
def dgetD (st : Sto) (n : Nat) (x : D) : Option D := match st[n]? with
  | some (.dic kvs) => (keyD x).bind (getK kvs)
  | _ => none
def dputD (st : Sto) (n : Nat) (x v : D) : Option Sto := match st[n]? with
  | some (.dic kvs) => match keyD x with
    | some k => if kvs.length < sizeLine then some (st.set n (.dic (putD kvs k v))) else none
    | none => none
  | _ => none
def lputD (st : Sto) (n : Nat) (x v : D) : Option Sto := match st[n]?, x with
  | some (.lst xs), .int j => match ixN xs.length j with
    | some m => some (st.set n (.lst (xs.set m v)))
    | none => none
  | _, _ => none
/-- a result that is data -/
def lift (o : Option D) (st : Sto) : Res Vl := match o with
  | some x => .ok (.d x) st
  | none => .no
def asD (v : Vl) (st : Sto) : Res D := match rd st v with
  | some x => .ok x st
  | none => .no
def asDs : List Vl → Sto → Res (List D)
  | [], st => .ok [] st
  | v :: r, st => (asD v st).bnd fun x _ => (asDs r st).bnd fun xs _ => .ok (x :: xs) st
/-- data alone (no mutable object) -/
def dAll : List Vl → Option (List D)
  | [] => some []
  | .d x :: r => (dAll r).map (x :: ·)
  | .r _ :: _ => none
  | .x _ _ :: _ => none
def tru (v : Vl) (st : Sto) : Option Bool := (rd st v).bind truD

def glen : Gs → Nat
  | .nil => 0
  | .cons _ r => glen r + 1
/-- what several targets get, the i-th behind a star -/
def packD (i n : Nat) (xs : List D) : List D := xs.take i ++ [.list ((xs.drop i).take (xs.length + 1 - n))] ++ (xs.drop i).drop (xs.length + 1 - n)
mutual
def setG : G → Vl → Envr → Option Envr
  | .var i, v, env => some (env.set i (some v))
  | .tup gs, .d (.tuple xs), env => setGs gs xs env
  | .tup gs, .d (.list xs), env => setGs gs xs env
  | .tup _, _, _ => none
  | .tupS i gs, .d (.tuple xs), env => if i < glen gs ∧ glen gs ≤ xs.length + 1 then setGs gs (packD i (glen gs) xs) env else none
  | .tupS _ _, _, _ => none
def setGs : Gs → List D → Envr → Option Envr
  | .nil, [], env => some env
  | .cons g r, x :: xs, env => (setG g (.d x) env).bind fun env' => setGs r xs env'
  | _, _, _ => none
end
/-- names one behind another -/
def setPar : List Nat → List Vl → Envr → Option Envr
  | [], [], env => some env
  | i :: is, v :: vs, env => setPar is vs (env.set i (some v))
  | _, _, _ => none
/-- what is walked: data that stands, or a mutable list -/
inductive Src where
  | fix (xs : List D)
  | obj (n len : Nat)
def rngs (lo : Int) : Nat → List D
  | 0 => []
  | n + 1 => .int lo :: rngs (lo + 1) n
def rng1D (v : Vl) (st : Sto) : Res Src := match v with
  | .d (.int j) => if -(2 ^ 62) ≤ j ∧ j < 2 ^ 62 then .ok (.fix (rngs 0 j.toNat)) st else .no
  | _ => .no
def rng2D (v w : Vl) (st : Sto) : Res Src := match v, w with
  | .d (.int i), .d (.int j) => if -(2 ^ 62) ≤ i ∧ i < 2 ^ 62 ∧ -(2 ^ 62) ≤ j ∧ j < 2 ^ 62 then .ok (.fix (rngs i (j - i).toNat)) st else .no
  | _, _ => .no
def rngC (lo c : Int) : Nat → List D
  | 0 => []
  | n + 1 => .int lo :: rngC (lo + c) c n
def rng3D (v w z : Vl) (st : Sto) : Res Src := match v, w, z with
  | .d (.int i), .d (.int j), .d (.int c) => if c ≠ 0 ∧ c.natAbs < 1073741824 ∧ Builtin.Range.small i j c = true ∧ 0 ≤ Builtin.Range.rangeSize i j c then .ok (.fix (rngC i c (Builtin.Range.rangeSize i j c).toNat)) st else .no
  | _, _, _ => .no
def seqD : D → Option (List D)
  | .list xs => some xs
  | .tuple xs => some xs
  | _ => none
def pairsD : List D → List D → List D
  | x :: xs, y :: ys => .tuple [x, y] :: pairsD xs ys
  | _, _ => []
def zipOf (s : Bool) (v w : Vl) (st : Sto) : Res Src := match v, w with
  | .d x, .d y => match seqD x, seqD y with
    | some xs, some ys => if s = true ∧ xs.length ≠ ys.length then .no else .ok (.fix (pairsD xs ys)) st
    | _, _ => .no
  | _, _ => .no
/-- the pairs as a list -/
def lzD (s : Bool) (v w : Vl) (st : Sto) : Res Vl := (zipOf s v w st).bnd fun src st1 => match src with
  | .fix xs => .ok (.d (.list xs)) st1
  | .obj _ _ => .no
def enumD : Nat → List D → List D
  | _, [] => []
  | i, x :: xs => .tuple [.int (i : Nat), x] :: enumD (i + 1) xs
def enuOf (v : Vl) (st : Sto) : Res Src := match v with
  | .d x => match seqD x with
    | some xs => .ok (.fix (enumD 0 xs)) st
    | none => .no
  | _ => .no
def ezipOf (s : Bool) (v w : Vl) (st : Sto) : Res Src := match v, w with
  | .d x, .d y => match seqD x, seqD y with
    | some xs, some ys => if s = true ∧ xs.length ≠ ys.length then .no else .ok (.fix (enumD 0 (pairsD xs ys))) st
    | _, _ => .no
  | _, _ => .no
def chrOf (v : Vl) (st : Sto) : Res Src := match v with
  | .d (.str x) => .ok (.fix (x.cps.toList.map fun c => .str ⟨#[c]⟩)) st
  | _ => .no
/-- the values in the parameters' order -/
def kaV (cs : List D) (vs : List Vl) : KA → Option Vl
  | .ix i => vs[i]?
  | .int n => some (.d (.int n))
  | .non => some (.d .none)
  | .cst i => (cs[i]?).map .d
  | .pr a b => some (.d (.tuple [.int a, .int b]))
def kaVs (cs : List D) (vs : List Vl) : List KA → Option (List Vl)
  | [] => some []
  | a :: r => match kaV cs vs a, kaVs cs vs r with
    | some v, some ws => some (v :: ws)
    | _, _ => none
def callK (cs : List D) (cl : Nat → List Vl → Sto → Res Vl) (f : Nat) (arr : List KA) (vs : List Vl) (st : Sto) : Res Vl := match kaVs cs vs arr with
  | some ws => cl f ws st
  | none => .no
def srcOf (v : Vl) (st : Sto) : Res Src := match v with
  | .d (.list xs) => .ok (.fix xs) st
  | .d (.tuple xs) => .ok (.fix xs) st
  | .d _ => .no
  | .r n => match st[n]? with
    | some (.lst xs) => .ok (.obj n xs.length) st
    | _ => .no
  | .x _ _ => .no
def wipeE (env : Envr) : List Nat → Envr
  | [] => env
  | v :: vs => (wipeE env vs).set v none

/-- a comprehension's turns: f gives what is kept of an item -/
def lcFix (f : D → Sto → Res (Option D)) : List D → List D → Sto → Res (List D)
  | [], acc, st => .ok acc st
  | x :: xs, acc, st => (f x st).calm.bnd fun o st1 => match o with
    | some y => if acc.length < sizeLine then lcFix f xs (acc ++ [y]) st1 else .no
    | none => lcFix f xs acc st1
def itemAt (n len i : Nat) (st : Sto) : Option D := match st[n]? with
  | some (.lst ys) => if ys.length = len then ys[i]? else none
  | _ => none
def stillAt (n len : Nat) (st : Sto) : Bool := match st[n]? with
  | some (.lst ys) => ys.length == len
  | _ => false
def lcObj (f : D → Sto → Res (Option D)) (n len : Nat) : Nat → Nat → List D → Sto → Res (List D)
  | 0, i, acc, st => if stillAt n len st && i == len then .ok acc st else .no
  | m + 1, i, acc, st => match itemAt n len i st with
    | none => .no
    | some x => (f x st).calm.bnd fun o st1 => match o with
      | some y => if acc.length < sizeLine then lcObj f n len m (i + 1) (acc ++ [y]) st1 else .no
      | none => lcObj f n len m (i + 1) acc st1
def lcSrc (f : D → Sto → Res (Option D)) : Src → Sto → Res (List D)
  | .fix xs, st => lcFix f xs [] st
  | .obj n len, st => lcObj f n len len 0 [] st

def keepD (v : Vl) (st : Sto) : Res (Option D) := match v with
  | .d y => .ok (some y) st
  | .r _ => .no
  | .x _ _ => .no
def mthD : Mt → Vl → List Vl → Sto → Res Vl
  | .append, .r n, [.d y], st => match st[n]? with
    | some (.lst xs) => if xs.length < sizeLine then .ok (.d .none) (st.set n (.lst (xs ++ [y]))) else .no
    | _ => .no
  | .extend, .r n, [w], st => match st[n]?, rd st w with
    | some (.lst xs), some (.list ys) => if xs.length + ys.length ≤ sizeLine then .ok (.d .none) (st.set n (.lst (xs ++ ys))) else .no
    | _, _ => .no
  | .count, v, [w], st => match rd st v, rd st w with
    | some (.list xs), some y => if xs.all flatD && flatD y then .ok (.d (.int (xs.countP fun x => PyData.eqv x y : Nat))) st else .no
    | _, _ => .no
  | .pop, .r n, [], st => match st[n]? with
    | some (.lst xs) => match xs[xs.length - 1]? with
      | some y => .ok (.d y) (st.set n (.lst xs.dropLast))
      | none => .no
    | _ => .no
  | .pop, .r n, [.d (.int i)], st => match st[n]? with
    | some (.lst xs) => if 0 ≤ i ∧ i < 2 ^ 62 then (match xs[i.toNat]? with
      | some y => .ok (.d y) (st.set n (.lst (xs.eraseIdx i.toNat)))
      | none => .no) else .no
    | _ => .no
  | .insert, .r n, [.d (.int i), .d y], st => match st[n]? with
    | some (.lst xs) => if 0 ≤ i ∧ i < 2 ^ 62 ∧ xs.length < sizeLine then .ok (.d .none) (st.set n (.lst (xs.take i.toNat ++ [y] ++ xs.drop i.toNat))) else .no
    | _ => .no
  | _, _, _, _ => .no

def isLst (v : Vl) (st : Sto) : Bool := match rd st v with
  | some (.list _) => true
  | _ => false
/-- an end of a slice -/
def isNilE : E → Bool
  | .nil => true
  | _ => false
def intV (v : Vl) (st : Sto) : Res (Option Int) := match v with
  | .d (.int i) => .ok (some i) st
  | _ => .no
def ptOf (b : Bool) (r : Res Vl) : Res (Option Int) := r.bnd fun v st => sel (some b) (.ok none st) (intV v st)
/-! classes of exceptions: the last of the constants tells each class's name and the names that it is under (its own too) -/
def ctOf (cs : List D) : List D := match cs.getLast? with
  | some (.list rows) => rows
  | _ => []
def strsD : List D → List Str
  | .str x :: r => x :: strsD r
  | _ => []
def ancD (rows : List D) (c : Str) : Option (List Str) := match rows with
  | .tuple [.str x, .list as] :: r => if x = c then some (strsD as) else ancD r c
  | _ => none
/-- is a thing of the class c one of the class n? -/
def xsub (cs : List D) (c n : Str) : Option Bool := match ancD (ctOf cs) c, ancD (ctOf cs) n with
  | some as, some _ => some (decide (n ∈ as))
  | _, _ => none
def xsubs (cs : List D) (c : Str) : List Str → Option Bool
  | [] => some false
  | n :: r => match xsub cs c n, xsubs cs c r with
    | some a, some b => some (a || b)
    | _, _ => none
def isxV (cs : List D) (ns : List Str) (v : Vl) (st : Sto) : Res Vl := match v with
  | .x c _ => match ancD (ctOf cs) c with
    | some _ => lift ((xsubs cs c ns).map .bool) st
    | none => .no
  | _ => .no
def fldV (cs : List D) (f : Str) (v : Vl) (st : Sto) : Res Vl := match v with
  | .x c fs => match ancD (ctOf cs) c with
    | some _ => lift (fs.lookup f) st
    | none => .no
  | _ => .no
/-- a list that was just made, to be written later on -/
def ownV (v : Vl) (st : Sto) : Res Vl := match v with
  | .d (.list xs) => .ok (.r st.length) (st ++ [.lst xs])
  | _ => .no
section
variable (cs : List D) (cl : Nat → List Vl → Sto → Res Vl)
mutual
def evE : E → Envr → Sto → Res Vl
  | .var i, env, st => match env[i]? with
    | some (some v) => .ok v st
    | _ => .no
  | .int n, _, st => .ok (.d (.int n)) st
  | .bl b, _, st => .ok (.d (.bool b)) st
  | .non, _, st => .ok (.d .none) st
  | .str x, _, st => .ok (.d (.str x)) st
  | .cst i, _, st => lift cs[i]? st
  | .bin op a b, env, st => (evE a env st).bnd fun x st1 => (evE b env st1).bnd fun y st2 => (asD x st2).bnd fun x' _ => (asD y st2).bnd fun y' _ => lift (binD op x' y') st2
  | .neg a, env, st => (evE a env st).bnd fun x st1 => match x with
    | .d (.int i) => .ok (.d (.int (-i))) st1
    | _ => .no
  | .nt a, env, st => (evE a env st).bnd fun x st1 => match tru x st1 with
    | some b => .ok (.d (.bool (!b))) st1
    | none => .no
  | .cmp op a b, env, st => (evE a env st).bnd fun x st1 => (evE b env st1).bnd fun y st2 => (asD x st2).bnd fun x' _ => (asD y st2).bnd fun y' _ => lift ((cmpD op x' y').map .bool) st2
  | .cmp2 op op' a b c, env, st => (evE a env st).bnd fun x st1 => (evE b env st1).bnd fun y st2 => (asD x st2).bnd fun x' _ => (asD y st2).bnd fun y' _ => match cmpD op x' y' with
    | some true => (evE c env st2).bnd fun z st3 => (asD y st3).bnd fun y2 _ => (asD z st3).bnd fun z' _ => lift ((cmpD op' y2 z').map .bool) st3
    | some false => .ok (.d (.bool false)) st2
    | none => .no
  | .and a b, env, st => (evE a env st).bnd fun x st1 => sel (tru x st1) (evE b env st1) (.ok x st1)
  | .or a b, env, st => (evE a env st).bnd fun x st1 => sel (tru x st1) (.ok x st1) (evE b env st1)
  | .ifx c a b, env, st => (evE c env st).bnd fun x st1 => sel (tru x st1) (evE a env st1) (evE b env st1)
  | .tup es, env, st => (evEs es env st).bnd fun vs st1 => match dAll vs with
    | some xs => if xs.length ≤ sizeLine then .ok (.d (.tuple xs)) st1 else .no
    | none => .no
  | .lst es, env, st => (evEs es env st).bnd fun vs st1 => match dAll vs with
    | some xs => if xs.length ≤ sizeLine then .ok (.d (.list xs)) st1 else .no
    | none => .no
  | .lstS es, env, st => (evEs es env st).bnd fun vs st1 => match dAll vs with
    | some xs => if xs.length ≤ sizeLine then .ok (.r st1.length) (st1 ++ [.lst xs]) else .no
    | none => .no
  | .dicS ks es, env, st => (evEs es env st).calm.bnd fun vs st1 => match dAll vs with
    | some xs => if xs.length = ks.length ∧ ks.length ≤ 15 then .ok (.r st1.length) (st1 ++ [.dic ((ks.map Sum.inr).zip xs |>.foldl (fun acc kv => putD acc kv.1 kv.2) [])]) else .no
    | none => .no
  | .sub a i, env, st => (evE a env st).bnd fun x st1 => (evE i env st1).bnd fun y st2 => (asD x st2).bnd fun x' _ => (asD y st2).bnd fun y' _ => lift (subD x' y') st2
  | .dget a i, env, st => (evE a env st).bnd fun x st1 => (evE i env st1).bnd fun y st2 => match x, y with
    | .r n, .d k => lift (dgetD st2 n k) st2
    | _, _ => .no
  | .slc a lo hi, env, st => (evE a env st).bnd fun x st1 => (ptOf (isNilE lo) (evE lo env st1)).bnd fun l st2 => (ptOf (isNilE hi) (evE hi env st2)).bnd fun h st3 => (asD x st3).bnd fun x' _ => lift (slcD x' l h) st3
  | .rev a, env, st => (evE a env st).bnd fun x st1 => (asD x st1).bnd fun x' _ => match x' with
    | .list xs => .ok (.d (.list xs.reverse)) st1
    | .tuple xs => .ok (.d (.tuple xs.reverse)) st1
    | _ => .no
  | .nil, _, st => .ok (.d .none) st
  | .own a, env, st => (evE a env st).calm.bnd fun v st1 => ownV v st1
  | .call f es, env, st => (evEs es env st).bnd fun vs st1 => cl f vs st1
  | .bi b es, env, st => (evEs es env st).bnd fun vs st1 => (asDs vs st1).bnd fun xs _ => lift (biD b xs) st1
  | .isin e t, env, st => (evE e env st).bnd fun v st1 => (asD v st1).bnd fun x _ => .ok (.d (.bool (isTy t x))) st1
  | .lc elt g it c own sto, env, st => (evIt it env st).bnd fun src st1 =>
      (lcSrc (fun x s => match setG g (.d x) (wipeE env own) with
        | none => .no
        | some env' => (evE c env' s).bnd fun b s1 => sel (tru b s1) ((evE elt env' s1).bnd fun y s2 => keepD y s2) (.ok none s1)) src st1).calm.bnd fun xs st2 => sel (some sto) (.ok (.r st2.length) (st2 ++ [.lst xs])) (.ok (.d (.list xs)) st2)
  | .mth m o es, env, st => (evE o env st).bnd fun v st1 => sel (some (isLst v st1)) ((evEs es env st1).bnd fun vs st2 => mthD m v vs st2) .no
  | .lzip a b s, env, st => (evE a env st).bnd fun v st1 => (evE b env st1).bnd fun w st2 => lzD s v w st2
  | .callk _ f arr es ks, env, st => (evEs es env st).bnd fun vs st1 => (evEs ks env st1).bnd fun ws st2 => callK cs cl f arr (vs ++ ws) st2
  | .isx e ns, env, st => (evE e env st).bnd fun v st1 => isxV cs ns v st1
  | .fld e f, env, st => (evE e env st).bnd fun v st1 => fldV cs f v st1
def evEs : Es → Envr → Sto → Res (List Vl)
  | .nil, _, st => .ok [] st
  | .cons e r, env, st => (evE e env st).bnd fun v st1 => (evEs r env st1).bnd fun vs st2 => .ok (v :: vs) st2
def evIt : It → Envr → Sto → Res Src
  | .val e, env, st => (evE e env st).bnd fun v st1 => srcOf v st1
  | .rng1 b, env, st => (evE b env st).bnd fun v st1 => rng1D v st1
  | .rng2 a b, env, st => (evE a env st).bnd fun v st1 => (evE b env st1).bnd fun w st2 => rng2D v w st2
  | .rng3 a b c, env, st => (evE a env st).bnd fun v st1 => (evE b env st1).bnd fun w st2 => (evE c env st2).bnd fun z st3 => rng3D v w z st3
  | .zip a b s, env, st => (evE a env st).bnd fun v st1 => (evE b env st1).bnd fun w st2 => zipOf s v w st2
  | .enu e, env, st => (evE e env st).bnd fun v st1 => enuOf v st1
  | .ezip a b s, env, st => (evE a env st).bnd fun v st1 => (evE b env st1).bnd fun w st2 => ezipOf s v w st2
  | .chr e, env, st => (evE e env st).bnd fun v st1 => chrOf v st1
end

inductive Fl where
  | nx (env : Envr) | ret (v : Vl) | bk (env : Envr) | ct (env : Envr)
  /-- a tuple is told: mutable things in it, too -/
  | rtt (vs : List Vl)
/-- a for's turns: f is a turn -/
def forFix (f : D → Envr → Sto → Res Fl) : List D → Envr → Sto → Res Fl
  | [], env, st => .ok (.nx env) st
  | x :: xs, env, st => (f x env st).bnd fun fl st1 => match fl with
    | .nx env' => forFix f xs env' st1
    | .ct env' => forFix f xs env' st1
    | .bk env' => .ok (.nx env') st1
    | .ret v => .ok (.ret v) st1
    | .rtt vs => .ok (.rtt vs) st1
def forObj (f : D → Envr → Sto → Res Fl) (n len : Nat) : Nat → Nat → Envr → Sto → Res Fl
  | 0, i, env, st => if stillAt n len st && i == len then .ok (.nx env) st else .no
  | m + 1, i, env, st => match itemAt n len i st with
    | none => .no
    | some x => (f x env st).bnd fun fl st1 => match fl with
      | .nx env' => forObj f n len m (i + 1) env' st1
      | .ct env' => forObj f n len m (i + 1) env' st1
      | .bk env' => .ok (.nx env') st1
      | .ret v => .ok (.ret v) st1
      | .rtt vs => .ok (.rtt vs) st1
def forSrc (f : D → Envr → Sto → Res Fl) : Src → Envr → Sto → Res Fl
  | .fix xs, env, st => forFix f xs env st
  | .obj n len, env, st => forObj f n len len 0 env st
/-- a while's turns -/
def whl (c : Envr → Sto → Res Bool) (f : Envr → Sto → Res Fl) : Nat → Envr → Sto → Res Fl
  | 0, _, _ => .no
  | W + 1, env, st => (c env st).bnd fun b st1 => match b with
    | false => .ok (.nx env) st1
    | true => (f env st1).bnd fun fl st2 => match fl with
      | .nx env' => whl c f W env' st2
      | .ct env' => whl c f W env' st2
      | .bk env' => .ok (.nx env') st2
      | .ret v => .ok (.ret v) st2
      | .rtt vs => .ok (.rtt vs) st2
def tst (r : Res Vl) : Res Bool := r.bnd fun v st => match tru v st with
  | some b => .ok b st
  | none => .no
/-- by what was raised -/
def tryR (r : Res Fl) (h : Str → List (Str × D) → Sto → Res Fl) : Res Fl := match r with
  | .ex c fs s => h c fs s
  | .ok a s => .ok a s
  | .no => .no
/-- behind an except suite its name is gone -/
def goneF (i : Option Nat) (fl : Fl) : Fl := match i with
  | none => fl
  | some i => match fl with
    | .nx env => .nx (env.set i none)
    | .bk env => .bk (env.set i none)
    | .ct env => .ct (env.set i none)
    | .ret v => .ret v
    | .rtt vs => .rtt vs
/-- no name holds an exception -/
def noXE : Envr → Bool
  | [] => true
  | some (.x _ _) :: _ => false
  | _ :: r => noXE r
def noXF : Fl → Bool
  | .nx env => noXE env
  | .bk env => noXE env
  | .ct env => noXE env
  | .ret (.x _ _) => false
  | .ret _ => true
  | .rtt _ => false
def finH (fl : Fl) (st : Sto) : Res Fl := if noXF fl then .ok fl st else .no
def namedE (i : Option Nat) (c : Str) (fs : List (Str × D)) (env : Envr) : Envr := match i with
  | none => env
  | some i => env.set i (some (.x c fs))
def raisD (c : Str) (fs : List Str) (vs : List Vl) (st : Sto) : Res Fl := match dAll vs with
  | some xs => if xs.length = fs.length then .ex c (fs.zip xs) st else .no
  | none => .no
def augTo (i : Nat) (op : Op) (a : Int) (env : Envr) (v : Vl) (st : Sto) : Res Fl := match op, v with
  | .add, .d (.int b) => .ok (.nx (env.set i (some (.d (.int (a + b)))))) st
  | .sub, .d (.int b) => .ok (.nx (env.set i (some (.d (.int (a - b)))))) st
  | _, _ => .no
variable (W : Nat)
mutual
def evS : S → Envr → Sto → Res Fl
  | .expr e, env, st => (evE cs cl e env st).bnd fun _ st1 => .ok (.nx env) st1
  | .asg g e, env, st => (evE cs cl e env st).bnd fun v st1 => match setG g v env with
    | some env' => .ok (.nx env') st1
    | none => .no
  | .par is es, env, st => (evEs cs cl es env st).bnd fun vs st1 => match setPar is vs env with
    | some env' => .ok (.nx env') st1
    | none => .no
  | .put o i e, env, st => (evE cs cl e env st).bnd fun v st1 => (evE cs cl o env st1).bnd fun ov st2 => (evE cs cl i env st2).bnd fun iv st3 => match v, ov, iv with
    | .d x, .r n, .d k => match lputD st3 n k x with
      | some st4 => .ok (.nx env) st4
      | none => .no
    | _, _, _ => .no
  | .dput o i e, env, st => (evE cs cl e env st).bnd fun v st1 => (evE cs cl o env st1).bnd fun ov st2 => (evE cs cl i env st2).bnd fun iv st3 => match v, ov, iv with
    | .d x, .r n, .d k => match dputD st3 n k x with
      | some st4 => .ok (.nx env) st4
      | none => .no
    | _, _, _ => .no
  | .ifs c a b, env, st => (evE cs cl c env st).bnd fun v st1 => sel (tru v st1) (evSs a env st1) (evSs b env st1)
  | .whl c b, env, st => whl (fun env st => tst (evE cs cl c env st)) (fun env st => evSs b env st) W env st
  | .forr g it b, env, st => (evIt cs cl it env st).bnd fun src st1 => forSrc (fun x env st => match setG g (.d x) env with
      | some env' => evSs b env' st
      | none => .no) src env st1
  | .ret e, env, st => (evE cs cl e env st).bnd fun v st1 => .ok (.ret v) st1
  | .pass, env, st => .ok (.nx env) st
  | .brk, env, st => .ok (.bk env) st
  | .cnt, env, st => .ok (.ct env) st
  | .rais c fs es, env, st => (evEs cs cl es env st).bnd fun vs st1 => raisD c fs vs st1
  | .aug i op e, env, st => match env[i]? with
    | some (some (.d (.int a))) => (evE cs cl e env st).bnd fun v st1 => augTo i op a env v st1
    | _ => .no
  | .rett es, env, st => (evEs cs cl es env st).bnd fun vs st1 => if vs.length ≤ sizeLine then .ok (.rtt vs) st1 else .no
  | .tryx b hs, env, st => tryR (evS b env st) fun c fs st1 => evHs hs c fs env st1
def evHs : Hs → Str → List (Str × D) → Envr → Sto → Res Fl
  | .nil, c, fs, _, st => .ex c fs st
  | .cons ns i b r, c, fs, env, st => match xsubs cs c ns with
    | some true => ((evSs b (namedE i c fs env) st).calm).bnd fun fl st1 => finH (goneF i fl) st1
    | some false => evHs r c fs env st
    | none => .no
def evSs : Ss → Envr → Sto → Res Fl
  | .nil, env, st => .ok (.nx env) st
  | .cons s r, env, st => (evS s env st).bnd fun fl st1 => match fl with
    | .nx env' => evSs r env' st1
    | other => .ok other st1
end
end

/-- a whole program: its constants, its functions -/
structure FD where
  name : Str
  np : Nat
  N : List Str
  body : Ss
  pure : Bool
  /-- called where an exception is handled, and nowhere else -/
  hot : Bool
def startE (N : List Str) (args : List Vl) : Envr := args.map some ++ List.replicate (N.length - args.length) none
/-! a function sees the mutable things that are handed in, and no others -/
def refsA : List Vl → List Nat
  | [] => []
  | .d _ :: r => refsA r
  | .r n :: r => n :: refsA r
  | .x _ _ :: r => refsA r
def locA : List Vl → Nat → List Vl
  | [], _ => []
  | .d x :: r, j => .d x :: locA r j
  | .r _ :: r, j => .r j :: locA r (j + 1)
  | .x c fs :: r, j => .x c fs :: locA r j
def objsA (st : Sto) : List Nat → Option Sto
  | [] => some []
  | n :: r => match st[n]?, objsA st r with
    | some o, some os => some (o :: os)
    | _, _ => none
def wback : Sto → List Nat → Sto → Sto
  | st, n :: ns, o :: os => wback (st.set n o) ns os
  | st, _, _ => st
/-- what a function tells: pure: a list that it made is data -/
def backV (pure : Bool) (st : Sto) (refs : List Nat) (v : Vl) (st' : Sto) : Res Vl := match v with
  | .d x => .ok (.d x) (wback st refs st')
  | .r j => match refs[j]? with
    | some n => if pure then .no else .ok (.r n) (wback st refs st')
    | none => match st'[j]?, pure with
      | some (.lst xs), true => .ok (.d (.list xs)) (wback st refs st')
      | some o, false => .ok (.r st.length) (wback st refs st' ++ [o])
      | _, _ => .no
  | .x _ _ => .no
/-- a tuple that is told: the lists that were made in it are data -/
def frzV (n : Nat) (st : Sto) : List Vl → Option (List D)
  | [] => some []
  | .d x :: r => (frzV n st r).map (x :: ·)
  | .r j :: r => if j < n then none else match st[j]?, frzV n st r with
    | some (.lst xs), some ds => some (.list xs :: ds)
    | _, _ => none
  | .x _ _ :: _ => none
/-- how a body ends, as a value -/
def outOf (n : Nat) (r : Res Fl) : Res Vl := r.bnd fun fl st => match fl with
  | .ret v => .ok v st
  | .nx _ => .ok (.d .none) st
  | .rtt vs => lift ((frzV n st vs).map .tuple) st
  | _ => .no
def backOut (pure : Bool) (st : Sto) (refs : List Nat) (r : Res Vl) : Res Vl := match r with
  | .ok v st' => backV pure st refs v st'
  | .ex c fs st' => .ex c fs (wback st refs st')
  | .no => .no
def callF (cs : List D) (T : List FD) (W : Nat) : Nat → Nat → List Vl → Sto → Res Vl
  | 0, _, _, _ => .no
  | k + 1, f, args, st => match T[f]? with
    | none => .no
    | some fd => if args.length = fd.np ∧ (refsA args).Nodup then (match objsA st (refsA args) with
      | some os => backOut fd.pure st (refsA args) (outOf (refsA args).length (evSs cs (callF cs T W k) W fd.body (startE fd.N (locA args 0)) os))
      | none => .no) else .no
end Ev
end
section
namespace Ev
open PySem PySem.Spec PyProof.Rows L2

/-! ### how data lies in the heap; B: what may still be written -/
/-- a list of the module's own -/
def KL (K : PySem.W.Frag) (a : Addr) (xs : List V) : Prop := ∃ (its : Array Value) (n : Nat), K.lookup a = some { cls := .type "list", data := .seq its n } ∧ its.size ≤ sizeLine ∧ Vals xs its.toList
theorem KL.sq {K : PySem.W.Frag} {H : Hp} {a : Addr} {xs : List V} (h : KL K a xs) : SqL K H a xs := by
  obtain ⟨its, n, e, z, r⟩ := h
  exact .inr ⟨_, its, n, e, rfl, rfl, rfl, z, r⟩
/-- a list that can be read -/
def LL (K : PySem.W.Frag) (H : Hp) (a : Addr) (xs : List V) : Prop := Rd H a (.lst xs) ∨ KL K a xs
theorem LL.sq {K : PySem.W.Frag} {H : Hp} {a : Addr} {xs : List V} (h : LL K H a xs) : SqL K H a xs := h.elim .inl KL.sq
theorem LL.obj {X : Cx} {pins : List (Addr × Obj)} {σ : L2.St} {H : Hp} {s : Shared} {a : Addr} {xs : List V} (I : Inv X pins σ H s) (h : LL X.K H a xs) :
    ∃ (its : List Value) (n : Nat), Vals xs its ∧ s.heap.get? a = some { cls := .type "list", data := .seq its.toArray n } ∧ xs.length ≤ sizeLine := by
  rcases h with h | ⟨its, n, e, z, r⟩
  · obtain ⟨z, its, n, r, e⟩ := h.ok I.hok
    exact ⟨its, n, r, e, z⟩
  · refine ⟨its.toList, n, r, by simpa using I.kIn a _ e, ?_⟩
    have q := r.length
    simp only [Array.length_toList] at q
    omega
mutual
inductive Rp (K : PySem.W.Frag) (H : Hp) (B : List Addr) : V → D → Prop
  | non : Rp K H B .non .none
  | bl (b : Bool) : Rp K H B (.bl b) (.bool b)
  | int (i : Int) : Rp K H B (.int i) (.int i)
  | str (x : Str) : Rp K H B (.str x) (.str x)
  | lst {a : Addr} {xs : List V} {ds : List D} : (Rd H a (.lst xs) ∧ a ∉ B) ∨ KL K a xs → RpA K H B xs ds → Rp K H B (.ref a) (.list ds)
  | tup {a : Addr} {xs : List V} {ds : List D} : SqT K H a xs → RpA K H B xs ds → Rp K H B (.ref a) (.tuple ds)
inductive RpA (K : PySem.W.Frag) (H : Hp) (B : List Addr) : List V → List D → Prop
  | nil : RpA K H B [] []
  | cons {v : V} {vs : List V} {x : D} {xs : List D} : Rp K H B v x → RpA K H B vs xs → RpA K H B (v :: vs) (x :: xs)
end

/-- from a heap to a later one: what stands and isn't to be written stays -/
structure Nx (ρ : List Addr) (H : Hp) (ρ' : List Addr) (H' : Hp) : Prop where
  ext : ∃ m, ρ' = ρ ++ m ∧ ∀ a ∈ m, H a = none
  keep : ∀ a o, H a = some o → a ∉ ρ → H' a = some o
  tups : ∀ a xs, Rd H a (.tup xs) → Rd H' a (.tup xs)
  live : ∀ a ∈ ρ', ∃ o, H' a = some o
theorem Nx.trans {ρ ρ1 ρ2 : List Addr} {H H1 H2 : Hp} (p : Nx ρ H ρ1 H1) (q : Nx ρ1 H1 ρ2 H2) : Nx ρ H ρ2 H2 := by
  obtain ⟨m1, e1, f1⟩ := p.ext
  obtain ⟨m2, e2, f2⟩ := q.ext
  have fresh : ∀ a, H1 a = none → H a = none := fun a h1 => by
    cases h : H a with
    | none => rfl
    | some o =>
      by_cases ha : a ∈ ρ
      · obtain ⟨o', h'⟩ := p.live a (by rw [e1]; exact List.mem_append_left _ ha)
        rw [h1] at h'
        cases h'
      · rw [p.keep a o h ha] at h1
        cases h1
  refine ⟨⟨m1 ++ m2, by rw [e2, e1, List.append_assoc], fun a ha => ?_⟩, fun a o h ha => ?_, fun a xs h => q.tups a xs (p.tups a xs h), q.live⟩
  · rcases List.mem_append.mp ha with h | h
    · exact f1 a h
    · exact fresh a (f2 a h)
  · refine q.keep a o (p.keep a o h ha) ?_
    rw [e1]
    intro z
    rcases List.mem_append.mp z with z | z
    · exact ha z
    · rw [f1 a z] at h
      cases h
section
variable {K : PySem.W.Frag} {H H' : Hp} {ρ ρ' F : List Addr}
theorem Nx.notin (n : Nx ρ H ρ' H') {a : Addr} {o : HO} (h : H a = some o) (ha : a ∉ ρ ++ F) : a ∉ ρ' ++ F := by
  obtain ⟨m, e, f⟩ := n.ext
  intro z
  rcases List.mem_append.mp z with z | z
  · rw [e] at z
    rcases List.mem_append.mp z with z | z
    · exact ha (List.mem_append_left _ z)
    · rw [f a z] at h
      cases h
  · exact ha (List.mem_append_right _ z)
theorem Nx.sqT (n : Nx ρ H ρ' H') {a : Addr} {xs : List V} (h : SqT K H a xs) : SqT K H' a xs := by
  rcases h with h | h
  · exact .inl (n.tups a xs h)
  · exact .inr h
mutual
theorem Rp.mono (n : Nx ρ H ρ' H') : ∀ {v : V} {x : D}, Rp K H (ρ ++ F) v x → Rp K H' (ρ' ++ F) v x
  | _, _, .non => .non
  | _, _, .bl b => .bl b
  | _, _, .int i => .int i
  | _, _, .str x => .str x
  | _, _, .lst h r => by
    refine .lst ?_ (RpA.mono n r)
    rcases h with ⟨h, ha⟩ | h
    · rcases h with h | ⟨o, h⟩
      · exact .inl ⟨.inl (n.keep _ _ h fun z => ha (List.mem_append_left _ z)), n.notin h ha⟩
      · exact .inl ⟨.inr ⟨o, n.keep _ _ h fun z => ha (List.mem_append_left _ z)⟩, n.notin h ha⟩
    · exact .inr h
  | _, _, .tup h r => .tup (n.sqT h) (RpA.mono n r)
theorem RpA.mono (n : Nx ρ H ρ' H') : ∀ {vs : List V} {xs : List D}, RpA K H (ρ ++ F) vs xs → RpA K H' (ρ' ++ F) vs xs
  | _, _, .nil => .nil
  | _, _, .cons h r => .cons (Rp.mono n h) (RpA.mono n r)
end
mutual
theorem Rp.sub {B B' : List Addr} (s : ∀ a ∈ B', a ∈ B) : ∀ {v : V} {x : D}, Rp K H B v x → Rp K H B' v x
  | _, _, .non => .non
  | _, _, .bl b => .bl b
  | _, _, .int i => .int i
  | _, _, .str x => .str x
  | _, _, .lst h r => .lst (h.imp_left fun ⟨p, q⟩ => ⟨p, fun z => q (s _ z)⟩) (RpA.sub s r)
  | _, _, .tup h r => .tup h (RpA.sub s r)
theorem RpA.sub {B B' : List Addr} (s : ∀ a ∈ B', a ∈ B) : ∀ {vs : List V} {xs : List D}, RpA K H B vs xs → RpA K H B' vs xs
  | _, _, .nil => .nil
  | _, _, .cons h r => .cons (Rp.sub s h) (RpA.sub s r)
end
mutual
/-- one more address that isn't live -/
theorem Rp.more {B : List Addr} {p : Addr} (hp : H p = none) : ∀ {v : V} {x : D}, Rp K H B v x → Rp K H (p :: B) v x
  | _, _, .non => .non
  | _, _, .bl b => .bl b
  | _, _, .int i => .int i
  | _, _, .str x => .str x
  | _, _, .lst h r => .lst (h.imp_left fun ⟨q, z⟩ => ⟨q, fun y => (List.mem_cons.mp y).elim (fun e => by
      subst e
      rcases q with q | ⟨o, q⟩ <;> (rw [hp] at q; cases q)) z⟩) (RpA.more hp r)
  | _, _, .tup h r => .tup h (RpA.more hp r)
theorem RpA.more {B : List Addr} {p : Addr} (hp : H p = none) : ∀ {vs : List V} {xs : List D}, RpA K H B vs xs → RpA K H (p :: B) vs xs
  | _, _, .nil => .nil
  | _, _, .cons h r => .cons (Rp.more hp h) (RpA.more hp r)
end
theorem RpA.length {B : List Addr} : ∀ {vs : List V} {xs : List D}, RpA K H B vs xs → vs.length = xs.length
  | _, _, .nil => rfl
  | _, _, .cons _ r => by simp [RpA.length r]
theorem RpA.get {B : List Addr} : ∀ {vs : List V} {xs : List D} {i : Nat} {x : D}, RpA K H B vs xs → xs[i]? = some x → ∃ v, vs[i]? = some v ∧ Rp K H B v x
  | _, _, _, _, .nil, e => by simp at e
  | _, _, 0, _, .cons h _, e => by simp at e; subst e; exact ⟨_, rfl, h⟩
  | _, _, i + 1, _, .cons _ r, e => by
    obtain ⟨v, h1, h2⟩ := RpA.get (i := i) r (by simpa using e)
    exact ⟨v, by simpa using h1, h2⟩
theorem RpA.get' {B : List Addr} : ∀ {vs : List V} {xs : List D} {i : Nat} {v : V}, RpA K H B vs xs → vs[i]? = some v → ∃ x, xs[i]? = some x ∧ Rp K H B v x
  | _, _, _, _, .nil, e => by simp at e
  | _, _, 0, _, .cons h _, e => by simp at e; subst e; exact ⟨_, rfl, h⟩
  | _, _, i + 1, _, .cons _ r, e => by
    obtain ⟨v, h1, h2⟩ := RpA.get' (i := i) r (by simpa using e)
    exact ⟨v, by simpa using h1, h2⟩
theorem RpA.append {B : List Addr} : ∀ {vs ws : List V} {xs ys : List D}, RpA K H B vs xs → RpA K H B ws ys → RpA K H B (vs ++ ws) (xs ++ ys)
  | _, _, _, _, .nil, s => s
  | _, _, _, _, .cons h r, s => .cons h (RpA.append r s)
theorem RpA.drop {B : List Addr} : ∀ {vs : List V} {xs : List D} (n : Nat), RpA K H B vs xs → RpA K H B (vs.drop n) (xs.drop n)
  | _, _, 0, h => h
  | _, _, _ + 1, .nil => .nil
  | _, _, n + 1, .cons _ r => RpA.drop n r
theorem RpA.take {B : List Addr} : ∀ {vs : List V} {xs : List D} (n : Nat), RpA K H B vs xs → RpA K H B (vs.take n) (xs.take n)
  | _, _, 0, _ => .nil
  | _, _, _ + 1, .nil => .nil
  | _, _, n + 1, .cons h r => .cons h (RpA.take n r)
theorem RpA.set {B : List Addr} {v : V} {x : D} (h : Rp K H B v x) : ∀ {vs : List V} {xs : List D} (n : Nat), RpA K H B vs xs → RpA K H B (vs.set n v) (xs.set n x)
  | _, _, _, .nil => .nil
  | _, _, 0, .cons _ r => .cons h r
  | _, _, n + 1, .cons q r => .cons q (RpA.set h n r)
theorem RpA.erase {B : List Addr} : ∀ {vs : List V} {xs : List D} (n : Nat), RpA K H B vs xs → RpA K H B (vs.eraseIdx n) (xs.eraseIdx n)
  | _, _, _, .nil => .nil
  | _, _, 0, .cons _ r => r
  | _, _, n + 1, .cons h r => .cons h (RpA.erase n r)
theorem RpA.reverse {B : List Addr} : ∀ {vs : List V} {xs : List D}, RpA K H B vs xs → RpA K H B vs.reverse xs.reverse
  | _, _, .nil => .nil
  | _, _, .cons h r => by
    rw [List.reverse_cons, List.reverse_cons]
    exact RpA.append (RpA.reverse r) (.cons h .nil)
theorem RpA.dropLast {B : List Addr} {vs : List V} {xs : List D} (h : RpA K H B vs xs) : RpA K H B vs.dropLast xs.dropLast := by
  rw [List.dropLast_eq_take, List.dropLast_eq_take, h.length]
  exact h.take _
mutual
theorem Rp.dp {B : List Addr} : ∀ {v : V} {x : D}, Rp K H B v x → Dp K H v x
  | _, _, .non => .non
  | _, _, .bl b => .bl b
  | _, _, .int i => .int i
  | _, _, .str x => .str x
  | _, _, .lst h r => .lst (h.elim (fun p => .inl p.1) KL.sq) (RpA.dp r)
  | _, _, .tup h r => .tup h (RpA.dp r)
theorem RpA.dp {B : List Addr} : ∀ {vs : List V} {xs : List D}, RpA K H B vs xs → DpAll K H vs xs
  | _, _, .nil => .nil
  | _, _, .cons h r => .cons (Rp.dp h) (RpA.dp r)
end
/-- to be read now: the list itself may be one that can be written -/
def Ro (K : PySem.W.Frag) (H : Hp) (B : List Addr) (v : V) : D → Prop
  | .list ds => ∃ a xs, v = .ref a ∧ LL K H a xs ∧ RpA K H B xs ds
  | .tuple ds => ∃ a xs, v = .ref a ∧ SqT K H a xs ∧ RpA K H B xs ds
  | .none => v = .non
  | .bool b => v = .bl b
  | .int i => v = .int i
  | .str x => v = .str x
  | .dict _ => False
theorem Rp.ro {B : List Addr} {v : V} {x : D} (h : Rp K H B v x) : Ro K H B v x := by
  cases h with
  | lst h r => exact ⟨_, _, rfl, h.elim (fun p => .inl p.1) .inr, r⟩
  | tup h r => exact ⟨_, _, rfl, h, r⟩
  | non => rfl
  | bl b => rfl
  | int i => rfl
  | str x => rfl
theorem Ro.dp {B : List Addr} {v : V} : ∀ {x : D}, Ro K H B v x → Dp K H v x
  | .list ds, ⟨a, xs, e, s, r⟩ => by subst e; exact .lst s.sq (RpA.dp r)
  | .tuple ds, ⟨a, xs, e, s, r⟩ => by subst e; exact .tup s (RpA.dp r)
  | .none, h => by cases h; exact .non
  | .bool b, h => by cases h; exact .bl b
  | .int b, h => by cases h; exact .int b
  | .str b, h => by cases h; exact .str b
  | .dict _, h => h.elim

/-! ### the store, values, slots -/
inductive Kvs (K : PySem.W.Frag) (H : Hp) (B : List Addr) : List (Key × V) → List (Key × D) → Prop
  | nil : Kvs K H B [] []
  | cons {k : Key} {v : V} {x : D} {vs : List (Key × V)} {xs : List (Key × D)} : Rp K H B v x → Kvs K H B vs xs → Kvs K H B ((k, v) :: vs) ((k, x) :: xs)
def OR (K : PySem.W.Frag) (H : Hp) (B : List Addr) (a : Addr) : Ob → Prop
  | .lst ds => ∃ xs, H a = some (.lst xs) ∧ RpA K H B xs ds
  | .dic kvs => ∃ xs, H a = some (.dK xs) ∧ Kvs K H B xs kvs
theorem Kvs.mono (n : Nx ρ H ρ' H') : ∀ {vs : List (Key × V)} {xs : List (Key × D)}, Kvs K H (ρ ++ F) vs xs → Kvs K H' (ρ' ++ F) vs xs
  | _, _, .nil => .nil
  | _, _, .cons h r => .cons (h.mono n) (Kvs.mono n r)
theorem Kvs.more {B : List Addr} {p : Addr} (hp : H p = none) : ∀ {vs : List (Key × V)} {xs : List (Key × D)}, Kvs K H B vs xs → Kvs K H (p :: B) vs xs
  | _, _, .nil => .nil
  | _, _, .cons h r => .cons (h.more hp) (Kvs.more hp r)
theorem Kvs.sub {B B' : List Addr} (s : ∀ a ∈ B', a ∈ B) : ∀ {vs : List (Key × V)} {xs : List (Key × D)}, Kvs K H B vs xs → Kvs K H B' vs xs
  | _, _, .nil => .nil
  | _, _, .cons h r => .cons (h.sub s) (Kvs.sub s r)
structure SR (K : PySem.W.Frag) (H : Hp) (ρ F : List Addr) (st : Sto) : Prop where
  len : ρ.length = st.length
  nd : ρ.Nodup
  obj : ∀ (n : Nat) (o : Ob) (a : Addr), st[n]? = some o → ρ[n]? = some a → OR K H (ρ ++ F) a o
  liveF : ∀ a ∈ F, ∃ o, H a = some o
theorem SR.live {st : Sto} (s : SR K H ρ F st) : ∀ a ∈ ρ, ∃ o, H a = some o := fun a ha => by
  obtain ⟨n, hn⟩ := List.mem_iff_getElem?.mp ha
  have hlt : n < st.length := by rw [← s.len]; exact (List.getElem?_eq_some_iff.mp hn).1
  have h := s.obj n st[n] a (List.getElem?_eq_getElem hlt) hn
  cases e : st[n] with
  | lst ds => rw [e] at h; obtain ⟨xs, h, _⟩ := h; exact ⟨_, h⟩
  | dic ds => rw [e] at h; obtain ⟨xs, h, _⟩ := h; exact ⟨_, h⟩
theorem SR.refl {st : Sto} (s : SR K H ρ F st) : Nx ρ H ρ H := ⟨⟨[], by simp, fun _ z => nomatch z⟩, fun _ _ h _ => h, fun _ _ h => h, s.live⟩
theorem SR.fresh {st : Sto} (s : SR K H ρ F st) {p : Addr} (hp : H p = none) : p ∉ ρ := fun z => by
  obtain ⟨o, h⟩ := s.live p z
  rw [hp] at h
  cases h
theorem upd_new {p : Addr} {o : HO} (hp : H p = none) {a : Addr} {u : HO} (h : H a = some u) : upd H p o a = some u := by
  rw [upd_ne (ne_of_none h hp)]
  exact h
theorem rd_new {p : Addr} {o : HO} (hp : H p = none) {a : Addr} {u : HO} (h : Rd H a u) : Rd (upd H p o) a u := by
  rcases h with h | ⟨ob, h⟩
  · exact .inl (upd_new hp h)
  · exact .inr ⟨ob, upd_new hp h⟩
/-- a new thing that is not to be written -/
theorem SR.nxNew {st : Sto} (s : SR K H ρ F st) {p : Addr} {o : HO} (hp : H p = none) : Nx ρ H ρ (upd H p o) :=
  ⟨⟨[], by simp, fun _ z => nomatch z⟩, fun _ _ h _ => upd_new hp h, fun _ _ h => rd_new hp h, fun a ha => by
    obtain ⟨u, h⟩ := s.live a ha
    exact ⟨u, upd_new hp h⟩⟩
/-- a value that a step makes: one that stood, or a new object -/
inductive New (K : PySem.W.Frag) (H : Hp) (B : List Addr) : V → D → Hp → Prop
  | old {v : V} {x : D} : Rp K H B v x → New K H B v x H
  | lst {p : Addr} {xs : List V} {ds : List D} : H p = none → RpA K H B xs ds → New K H B (.ref p) (.list ds) (upd H p (.lst xs))
  | tup {p : Addr} {xs : List V} {ds : List D} : H p = none → RpA K H B xs ds → New K H B (.ref p) (.tuple ds) (upd H p (.tup xs))
def isL : D → Bool
  | .list _ => true
  | _ => false
/-- as New, but a list is always a new one -/
inductive Fsh (K : PySem.W.Frag) (H : Hp) (B : List Addr) : V → D → Hp → Prop
  | old {v : V} {x : D} (r : Rp K H B v x) (h : isL x = false := by rfl) : Fsh K H B v x H
  | lst {p : Addr} {xs : List V} {ds : List D} : H p = none → RpA K H B xs ds → Fsh K H B (.ref p) (.list ds) (upd H p (.lst xs))
  | tup {p : Addr} {xs : List V} {ds : List D} : H p = none → RpA K H B xs ds → Fsh K H B (.ref p) (.tuple ds) (upd H p (.tup xs))
theorem Fsh.new {B : List Addr} {v : V} {x : D} (h : Fsh K H B v x H') : New K H B v x H' := by
  cases h with
  | old r _ => exact .old r
  | lst p r => exact .lst p r
  | tup p r => exact .tup p r
theorem OR.mono' {st : Sto} {a : Addr} (n : Nx ρ H ρ' H') (e : ∀ u, H a = some u → H' a = some u) : ∀ {o : Ob}, OR K H (ρ ++ F) a o → OR K H' (ρ' ++ F) a o
  | .lst ds, ⟨xs, h, r⟩ => ⟨xs, e _ h, r.mono n⟩
  | .dic ds, ⟨xs, h, r⟩ => ⟨xs, e _ h, r.mono n⟩
theorem SR.same {st : Sto} (s : SR K H ρ F st) (n : Nx ρ H ρ H') (h : ∀ a u, H a = some u → H' a = some u) : SR K H' ρ F st :=
  ⟨s.len, s.nd, fun k o a h1 h2 => OR.mono' (st := st) n (fun u => h a u) (s.obj k o a h1 h2), fun a ha => (s.liveF a ha).imp fun o => h a o⟩
theorem SR.new {st : Sto} (s : SR K H ρ F st) {p : Addr} {o : HO} (hp : H p = none) : SR K (upd H p o) ρ F st := s.same (s.nxNew hp) fun _ _ => upd_new hp
/-- a new thing to be written -/
theorem SR.nxNewS {st : Sto} (s : SR K H ρ F st) {p : Addr} {o : HO} (hp : H p = none) : Nx ρ H (ρ ++ [p]) (upd H p o) :=
  ⟨⟨[p], rfl, fun a ha => by rw [List.mem_singleton.mp ha]; exact hp⟩, fun _ _ h _ => upd_new hp h, fun _ _ h => rd_new hp h, fun a ha => by
    rcases List.mem_append.mp ha with z | z
    · obtain ⟨u, h⟩ := s.live a z
      exact ⟨u, upd_new hp h⟩
    · rw [List.mem_singleton.mp z]
      exact ⟨o, upd_same⟩⟩
theorem SR.newS {st : Sto} {ob : Ob} (s : SR K H ρ F st) {p : Addr} {o : HO} (hp : H p = none) (h : OR K (upd H p o) ((ρ ++ [p]) ++ F) p ob) : SR K (upd H p o) (ρ ++ [p]) F (st ++ [ob]) := by
  have n := s.nxNewS (o := o) hp
  refine ⟨by simp [s.len], ?_, fun k u a h1 h2 => ?_, fun a ha => ?_⟩
  · rw [List.nodup_append]
    refine ⟨s.nd, by simp, fun a ha b hb => ?_⟩
    rw [List.mem_singleton.mp hb]
    rintro rfl
    exact s.fresh hp ha
  · by_cases hk : k < ρ.length
    · rw [List.getElem?_append_left (by rw [← s.len]; exact hk)] at h1
      rw [List.getElem?_append_left hk] at h2
      exact OR.mono' (st := st) n (fun _ => upd_new hp) (s.obj k u a h1 h2)
    · have hk2 : k < (ρ ++ [p]).length := (List.getElem?_eq_some_iff.mp h2).1
      have e : k = ρ.length := by simp at hk2; omega
      subst e
      rw [List.getElem?_append_right (by rw [s.len]; exact Nat.le_refl _), s.len, Nat.sub_self] at h1
      rw [List.getElem?_append_right (Nat.le_refl _), Nat.sub_self] at h2
      cases h1
      cases h2
      exact h
  · obtain ⟨u, h⟩ := s.liveF a ha
    exact ⟨u, upd_new hp h⟩
theorem SR.at {st : Sto} (s : SR K H ρ F st) {n : Nat} {o : Ob} (h : st[n]? = some o) : ∃ a, ρ[n]? = some a ∧ a ∈ ρ ∧ OR K H (ρ ++ F) a o := by
  have hlt : n < ρ.length := by rw [s.len]; exact (List.getElem?_eq_some_iff.mp h).1
  exact ⟨ρ[n], List.getElem?_eq_getElem hlt, List.getElem_mem hlt, s.obj n o _ h (List.getElem?_eq_getElem hlt)⟩
theorem ndIx {l : List Addr} (h : l.Nodup) {i j : Nat} {x : Addr} (a : l[i]? = some x) (b : l[j]? = some x) : i = j := by
  obtain ⟨hi, ei⟩ := List.getElem?_eq_some_iff.mp a
  obtain ⟨hj, ej⟩ := List.getElem?_eq_some_iff.mp b
  have key : ∀ (p q : Nat) (hp : p < l.length) (hq : q < l.length), p < q → l[p] ≠ l[q] := fun p q hp hq z => List.pairwise_iff_getElem.mp h p q hp hq z
  rcases Nat.lt_trichotomy i j with z | z | z
  · exact absurd (ei.trans ej.symm) (key i j hi hj z)
  · exact z
  · exact absurd (ej.trans ei.symm) (key j i hj hi z)
theorem SR.nxSet {st : Sto} (s : SR K H ρ F st) {p : Addr} {o : HO} (hp : p ∈ ρ) (hm : ∀ xs, ¬ Rd H p (.tup xs)) : Nx ρ H ρ (upd H p o) := by
  refine ⟨⟨[], by simp, fun _ z => nomatch z⟩, fun a u h ha => ?_, fun a xs h => ?_, fun a ha => ?_⟩
  · rw [upd_ne (show a ≠ p from fun e => ha (by rw [e]; exact hp))]
    exact h
  · have ne : a ≠ p := fun e => hm xs (e ▸ h)
    rcases h with h | ⟨ob, h⟩
    · exact .inl (by rw [upd_ne ne]; exact h)
    · exact .inr ⟨ob, by rw [upd_ne ne]; exact h⟩
  · by_cases e : a = p
    · rw [e]; exact ⟨o, upd_same⟩
    · obtain ⟨u, h⟩ := s.live a ha
      exact ⟨u, by rw [upd_ne e]; exact h⟩
theorem SR.setS {st : Sto} {ob : Ob} (s : SR K H ρ F st) {n : Nat} {p : Addr} {o : HO} (hn : ρ[n]? = some p) (hm : ∀ xs, ¬ Rd H p (.tup xs)) (h : OR K (upd H p o) (ρ ++ F) p ob) : SR K (upd H p o) ρ F (st.set n ob) := by
  have hp : p ∈ ρ := List.mem_of_getElem? hn
  have nx := s.nxSet (o := o) hp hm
  refine ⟨by simp [s.len], s.nd, fun k u a h1 h2 => ?_, fun a ha => ?_⟩
  · by_cases hk : k = n
    · subst hk
      rw [hn] at h2
      cases h2
      have hlt : k < st.length := by rw [← s.len]; exact (List.getElem?_eq_some_iff.mp hn).1
      rw [List.getElem?_set_self hlt] at h1
      cases h1
      exact h
    · rw [List.getElem?_set_ne (Ne.symm hk)] at h1
      have ne : a ≠ p := fun e => hk (by
        subst e
        exact ndIx s.nd h2 hn)
      exact OR.mono' (st := st) nx (fun w hw => by rw [upd_ne ne]; exact hw) (s.obj k u a h1 h2)
  · by_cases e : a = p
    · rw [e]; exact ⟨o, upd_same⟩
    · obtain ⟨u, h⟩ := s.liveF a ha
      exact ⟨u, by rw [upd_ne e]; exact h⟩
theorem SR.freshF {st : Sto} (s : SR K H ρ F st) {p : Addr} (hp : H p = none) : p ∉ ρ ++ F := fun z => by
  rcases List.mem_append.mp z with z | z
  · exact s.fresh hp z
  · obtain ⟨o, h⟩ := s.liveF p z
    rw [hp] at h
    cases h
theorem New.done {st : Sto} (s : SR K H ρ F st) {v : V} {x : D} (n : New K H (ρ ++ F) v x H') : Nx ρ H ρ H' ∧ SR K H' ρ F st ∧ Rp K H' (ρ ++ F) v x := by
  cases n with
  | old h => exact ⟨s.refl, s, h⟩
  | lst hp r => exact ⟨s.nxNew hp, s.new hp, .lst (.inl ⟨.inl upd_same, s.freshF hp⟩) (r.mono (s.nxNew hp))⟩
  | tup hp r => exact ⟨s.nxNew hp, s.new hp, .tup (.inl (.inl upd_same)) (r.mono (s.nxNew hp))⟩
end
/-- as New: whatever the store is -/
def Nw (K : PySem.W.Frag) (ρ F : List Addr) (H : Hp) (v : V) (x : D) (H' : Hp) : Prop := ∀ st : Sto, SR K H ρ F st → Nx ρ H ρ H' ∧ SR K H' ρ F st ∧ Rp K H' (ρ ++ F) v x
theorem New.nw {K : PySem.W.Frag} {H H' : Hp} {ρ F : List Addr} {v : V} {x : D} (n : New K H (ρ ++ F) v x H') : Nw K ρ F H v x H' := fun _ s => n.done s
/-! ### values of names -/
/-- what is known of the module, and the exception that is handled: its address, its class, its dict -/
structure Ky where
  fr : PySem.W.Frag
  xa : Option (Addr × Addr × Addr)
instance : Coe Ky PySem.W.Frag := ⟨Ky.fr⟩
/-- an exception's fields -/
def XF (K : PySem.W.Frag) (H : Hp) (B : List Addr) (d : Addr) (fs : List (Str × D)) : Prop := d ∉ B ∧ ∃ gs : List (Str × V), H d = some (.xd gs) ∧ ∀ f x, fs.lookup f = some x → ∃ v, gs.lookup f = some v ∧ Rp K H B v x
def XC (K : PySem.W.Frag) (c : Str) (C : Addr) : Prop := PySem.W.nsIn K mainGlobals c = some (some (.ref C))
theorem XF.mono {K : PySem.W.Frag} {H H' : Hp} {ρ ρ' F : List Addr} (n : Nx ρ H ρ' H') {d : Addr} {fs : List (Str × D)} (h : XF K H (ρ ++ F) d fs) : XF K H' (ρ' ++ F) d fs := by
  obtain ⟨h0, gs, h1, h2⟩ := h
  refine ⟨n.notin h1 h0, gs, n.keep _ _ h1 fun z => h0 (List.mem_append_left _ z), fun f x e => ?_⟩
  obtain ⟨v, e1, e2⟩ := h2 f x e
  exact ⟨v, e1, Rp.mono n e2⟩
theorem XF.sub {K : PySem.W.Frag} {H : Hp} {B B' : List Addr} (s : ∀ a ∈ B', a ∈ B) {d : Addr} {fs : List (Str × D)} (h : XF K H B d fs) : XF K H B' d fs := by
  obtain ⟨h0, gs, h1, h2⟩ := h
  refine ⟨fun z => h0 (s _ z), gs, h1, fun f x e => ?_⟩
  obtain ⟨v, e1, e2⟩ := h2 f x e
  exact ⟨v, e1, Rp.sub s e2⟩
theorem XF.more {K : PySem.W.Frag} {H : Hp} {B : List Addr} {p : Addr} (hp : H p = none) {d : Addr} {fs : List (Str × D)} (h : XF K H B d fs) : XF K H (p :: B) d fs := by
  obtain ⟨h0, gs, h1, h2⟩ := h
  refine ⟨fun z => (List.mem_cons.mp z).elim (fun e => by rw [e, hp] at h1; cases h1) h0, gs, h1, fun f x e => ?_⟩
  obtain ⟨v, e1, e2⟩ := h2 f x e
  exact ⟨v, e1, Rp.more hp e2⟩
section
variable {K : Ky} {H H' : Hp} {ρ ρ' F : List Addr}
def RV (K : Ky) (H : Hp) (F ρ : List Addr) (v : V) : Vl → Prop
  | .d x => Rp K H (ρ ++ F) v x
  | .r n => ∃ a, ρ[n]? = some a ∧ v = .ref a
  | .x c fs => ∃ a C d, K.xa = some (a, C, d) ∧ v = .ref a ∧ XC K c C ∧ XF K H (ρ ++ F) d fs
theorem RV.mono (n : Nx ρ H ρ' H') {v : V} : ∀ {x : Vl}, RV K H F ρ v x → RV K H' F ρ' v x
  | .d x, h => Rp.mono n h
  | .r k, ⟨a, h, e⟩ => by
    obtain ⟨m, e1, _⟩ := n.ext
    refine ⟨a, ?_, e⟩
    rw [e1, List.getElem?_append_left (List.getElem?_eq_some_iff.mp h).1]
    exact h
  | .x c fs, ⟨a, C, d, h1, h2, h3, h4⟩ => ⟨a, C, d, h1, h2, h3, h4.mono n⟩
inductive RVs (K : Ky) (H : Hp) (F ρ : List Addr) : List V → List Vl → Prop
  | nil : RVs K H F ρ [] []
  | cons {v : V} {vs : List V} {x : Vl} {xs : List Vl} : RV K H F ρ v x → RVs K H F ρ vs xs → RVs K H F ρ (v :: vs) (x :: xs)
theorem RVs.mono (n : Nx ρ H ρ' H') : ∀ {vs : List V} {xs : List Vl}, RVs K H F ρ vs xs → RVs K H' F ρ' vs xs
  | _, _, .nil => .nil
  | _, _, .cons h r => .cons (h.mono n) (r.mono n)
theorem RVs.length : ∀ {vs : List V} {xs : List Vl}, RVs K H F ρ vs xs → vs.length = xs.length
  | _, _, .nil => rfl
  | _, _, .cons _ r => by simp [RVs.length r]
inductive ER (K : Ky) (H : Hp) (F ρ : List Addr) : L2.St → Envr → Prop
  | nil : ER K H F ρ [] []
  | val {v : V} {vs : L2.St} {x : Vl} {xs : Envr} : RV K H F ρ v x → ER K H F ρ vs xs → ER K H F ρ (some v :: vs) (some x :: xs)
  | gap {v : Option V} {vs : L2.St} {xs : Envr} : ER K H F ρ vs xs → ER K H F ρ (v :: vs) (none :: xs)
theorem ER.mono (n : Nx ρ H ρ' H') : ∀ {vs : L2.St} {xs : Envr}, ER K H F ρ vs xs → ER K H' F ρ' vs xs
  | _, _, .nil => .nil
  | _, _, .val h r => .val (h.mono n) (r.mono n)
  | _, _, .gap r => .gap (r.mono n)
theorem ER.get : ∀ {vs : L2.St} {xs : Envr} {i : Nat} {x : Vl}, ER K H F ρ vs xs → xs[i]? = some (some x) → ∃ v, vs[i]? = some (some v) ∧ RV K H F ρ v x
  | _, _, _, _, .nil, e => by simp at e
  | _, _, 0, _, .val h _, e => by simp at e; subst e; exact ⟨_, rfl, h⟩
  | _, _, 0, _, .gap _, e => by simp at e
  | _, _, i + 1, _, .val _ r, e => by
    obtain ⟨v, h1, h2⟩ := ER.get (i := i) r (by simpa using e)
    exact ⟨v, by simpa using h1, h2⟩
  | _, _, i + 1, _, .gap r, e => by
    obtain ⟨v, h1, h2⟩ := ER.get (i := i) r (by simpa using e)
    exact ⟨v, by simpa using h1, h2⟩
theorem ER.length : ∀ {vs : L2.St} {xs : Envr}, ER K H F ρ vs xs → vs.length = xs.length
  | _, _, .nil => rfl
  | _, _, .val _ r => by simp [ER.length r]
  | _, _, .gap r => by simp [ER.length r]
theorem ER.set {v : V} {x : Vl} (h : RV K H F ρ v x) : ∀ {vs : L2.St} {xs : Envr} (i : Nat), ER K H F ρ vs xs → ER K H F ρ (vs.set i (some v)) (xs.set i (some x))
  | _, _, _, .nil => .nil
  | _, _, 0, .val _ r => .val h r
  | _, _, 0, .gap r => .val h r
  | _, _, i + 1, .val q r => .val q (ER.set h i r)
  | _, _, i + 1, .gap r => .gap (ER.set h i r)
theorem ER.unset : ∀ {vs : L2.St} {xs : Envr} (i : Nat), ER K H F ρ vs xs → ER K H F ρ (vs.set i none) (xs.set i none)
  | _, _, _, .nil => .nil
  | _, _, 0, .val _ r => .gap r
  | _, _, 0, .gap r => .gap r
  | _, _, i + 1, .val q r => .val q (ER.unset i r)
  | _, _, i + 1, .gap r => .gap (ER.unset i r)
theorem ER.wipe {vs : L2.St} {xs : Envr} (h : ER K H F ρ vs xs) : ∀ own : List Nat, ER K H F ρ (L2.wipe vs own) (wipeE xs own)
  | [] => h
  | i :: r => ER.unset i (ER.wipe h r)
theorem RV.more {p : Addr} (hp : H p = none) {v : V} : ∀ {x : Vl}, RV K H F ρ v x → RV K H (p :: F) ρ v x
  | .d x, h => Rp.sub (fun a ha => by
      rcases List.mem_append.mp ha with z | z
      · exact List.mem_cons_of_mem _ (List.mem_append_left _ z)
      · rcases List.mem_cons.mp z with z | z
        · rw [z]; exact List.mem_cons_self
        · exact List.mem_cons_of_mem _ (List.mem_append_right _ z)) (Rp.more hp h)
  | .r k, h => h
  | .x c fs, ⟨a, C, d, h1, h2, h3, h4⟩ => ⟨a, C, d, h1, h2, h3, (h4.more hp).sub fun a ha => by
      rcases List.mem_append.mp ha with z | z
      · exact List.mem_cons_of_mem _ (List.mem_append_left _ z)
      · rcases List.mem_cons.mp z with z | z
        · rw [z]; exact List.mem_cons_self
        · exact List.mem_cons_of_mem _ (List.mem_append_right _ z)⟩
theorem ER.more {p : Addr} (hp : H p = none) : ∀ {vs : L2.St} {xs : Envr}, ER K H F ρ vs xs → ER K H (p :: F) ρ vs xs
  | _, _, .nil => .nil
  | _, _, .val h r => .val (h.more hp) (r.more hp)
  | _, _, .gap r => .gap (r.more hp)
/-- a value read as data -/
theorem RV.ro {st : Sto} (s : SR K H ρ F st) {v : V} {x : Vl} {d : D} (h : RV K H F ρ v x) (e : rd st x = some d) : Ro K H (ρ ++ F) v d := by
  cases x with
  | d y => cases e; exact Rp.ro h
  | r n =>
    obtain ⟨a, ha, rfl⟩ := h
    unfold rd at e
    simp only at e
    split at e
    · rename_i xs q
      cases e
      obtain ⟨ys, h1, h2⟩ := s.obj n _ a q ha
      exact ⟨a, ys, rfl, .inl (.inl h1), h2⟩
    · cases e
  | x c fs => cases e
end
end Ev
end
section
namespace Ev
open PySem PySem.Spec PyProof.Rows L2
variable {X : Cx}
def opOf : Op → Operator
  | .add => .Add | .sub => .Sub | .mul => .Mult | .fdiv => .FloorDiv | .mod => .Mod | .pow => .Pow
theorem RpA.rep {K : PySem.W.Frag} {H : Hp} {B : List Addr} {vs : List V} {xs : List D} (r : RpA K H B vs xs) : ∀ m : Nat, RpA K H B (List.replicate m vs).flatten (List.replicate m xs).flatten
  | 0 => .nil
  | m + 1 => by
    rw [List.replicate_succ, List.replicate_succ, List.flatten_cons, List.flatten_cons]
    exact r.append (RpA.rep r m)
/-- a list of any kind, some times over -/
theorem op_repA {pins : List (Addr × Obj)} {s : Shared} {σ : L2.St} {H : Hp} {l : Addr} {xs : List V} {k : Int} {u : Value} {Q : VK} (I : Inv X pins σ H s) (hL : LL X.K H l xs) (ru : RelV (.int k) u) (h0 : 0 ≤ k) (h1 : k ≤ 1000) (hx : xs.length ≤ 1000) (q : ∀ p, H p = none → Q (.ref p) (upd H p (.lst (List.replicate k.toNat xs).flatten))) :
    wpAny (model X.prog X.w) X.A (binaryOp .Mult (.ref l) u) (EP X pins σ Q) X.xe s := by
  obtain ⟨t, rfl⟩ := ru
  obtain ⟨its, n, r, e, z⟩ := hL.obj I
  have hl := r.length
  have prod : xs.length * k.toNat ≤ 1000 * 1000 := Nat.mul_le_mul hx (by omega)
  have most : its.toArray.size * k.toNat ≤ sizeLine := by rw [List.size_toArray, ← hl, sizeLine_eq]; omega
  have c1 : ¬ its.toArray.size * k.toNat > (2 ^ 63 - 1) / 8 := by
    have : (sizeLine : Nat) ≤ (2 ^ 63 - 1) / 8 := by decide
    omega
  have c2 : ¬ (!Builtin.List.listFitsIndex k) = true := by
    rw [fitsIndex_both (by omega) (by omega)]
    exact Bool.false_ne_true
  have c3 : ¬ Builtin.List.listTooLong (its.toArray.size * k.toNat) = true := by
    rw [notLongL most]
    exact Bool.false_ne_true
  have made : List.foldl (fun x1 x2 => x1 ++ x2) #[] (List.replicate (if its.toArray.isEmpty = true then 0 else k.toNat) its.toArray) = (List.replicate k.toNat its).flatten.toArray := by
    rw [size_rep]
    cases its with
    | nil => simp
    | cons a b => rw [if_neg (by simp)]
  refine wpAny_binaryOp_repeat_ref (T := "list") (U := "int") (by decide) ⟨_, e, rfl⟩ (fun s2 => typeIs_int s2 k t) noFill_list_mul F.fills_int_mul F.slot_int_rmul repeat_list F.slot_int_index.lookup (call_meets F.slot_int_rmul (typeIs_int s k t) F.entry_int_rmul (F.args_int_rmul_2 _ _) (int___rmul___int_list k t l its.toArray n)
    ⟨e, rfl, ⟨_, e, rfl⟩, call_meets F.slot_list_mul ⟨_, e, rfl⟩ F.entry_list_mul (F.args_list_mul_2 _ _) (AutoListH.list___mul___list_int_3 l its.toArray n k t c2 c1 c3) ⟨e, ?_⟩⟩)
  rw [made]
  exact ⟨.ref _, _, I.lnew (t' := s.toks) (r.rep k.toNat) (by rw [PyProof.Rows.lm_len_rep_flat, Nat.mul_comm, sizeLine_eq]; omega), rfl, q _ I.fresh⟩
/-- an operator by data -/
def rBin (K : PySem.W.Frag) (op : Op) : R2 := fun x y H Q => ∃ B a b c, Ro K H B x a ∧ Ro K H B y b ∧ binD op a b = some c ∧ ∀ z H', Fsh K H B z c H' → Q z H'
theorem op_bin (op : Op) : OpR X (binaryOp (opOf op)) (rBin X.K op) := by
  intro pins s σ H x y v u Q I rx ry h
  obtain ⟨B, a, b, c, ra, rb, e, q⟩ := h
  unfold binD at e
  split at e
  · cases e; cases ra; cases rb
    exact op_add pins s σ H _ _ v u Q I rx ry ⟨_, _, rfl, rfl, q _ _ (.old (.int _))⟩
  · split at e <;> cases e
    cases ra; cases rb
    exact op_add_str pins s σ H _ _ v u Q I rx ry ⟨_, _, rfl, rfl, by assumption, q _ _ (.old (.str _))⟩
  · split at e <;> cases e
    rename_i hz
    obtain ⟨p, xs, rfl, l1, r1⟩ := ra
    obtain ⟨p2, ys, rfl, l2, r2⟩ := rb
    cases rx; cases ry
    obtain ⟨its, n, v1, e1, z1⟩ := l1.obj I
    obtain ⟨its2, n2, v2, e2, z2⟩ := l2.obj I
    have k1 := v1.length
    have k2 := v2.length
    have k3 := r1.length
    have k4 := r2.length
    refine PySem.P.add_list e1 e2 ?_ (by simp only [List.size_toArray]; omega)
    rw [show its.toArray ++ its2.toArray = (its ++ its2).toArray by simp]
    refine ⟨V.ref _, _, I.lnew (ys := xs ++ ys) (t' := s.toks) (v1.append v2) (by simp only [List.length_append]; omega), rfl, q _ _ (.lst I.fresh (r1.append r2))⟩
  · split at e <;> cases e
    rename_i hz
    obtain ⟨p, xs, rfl, l1, r1⟩ := ra
    obtain ⟨p2, ys, rfl, l2, r2⟩ := rb
    have k3 := r1.length
    have k4 := r2.length
    refine op_catA pins s σ H _ _ v u Q I rx ry ⟨p, p2, xs, ys, rfl, rfl, l1, l2, by omega, fun z => ?_, fun _ z => ?_, fun _ _ np hp => q _ _ (.tup hp (r1.append r2))⟩
    · subst z
      cases r1
      exact q _ _ (.old (.tup l2 r2))
    · subst z
      cases r2
      refine q _ _ (.old (.tup l1 ?_))
      rw [List.append_nil]
      exact r1
  · cases e; cases ra; cases rb
    exact op_sub pins s σ H _ _ v u Q I rx ry ⟨_, _, rfl, rfl, q _ _ (.old (.int _))⟩
  · split at e <;> cases e
    cases ra; cases rb
    exact op_mulW pins s σ H _ _ v u Q I rx ry ⟨_, _, rfl, rfl, by assumption, q _ _ (.old (.int _))⟩
  · split at e <;> cases e
    cases ra; cases rb
    exact op_fdivW pins s σ H _ _ v u Q I rx ry ⟨_, _, rfl, rfl, by assumption, q _ _ (.old (.int _))⟩
  · split at e <;> cases e
    cases ra; cases rb
    exact op_mod pins s σ H _ _ v u Q I rx ry ⟨_, _, rfl, rfl, by assumption, q _ _ (.old (.int _))⟩
  · split at e <;> cases e
    rename_i hz
    obtain ⟨p, vs, rfl, l1, r1⟩ := ra
    cases rb; cases rx
    exact op_repA I l1 ry hz.1 hz.2.1 (by rw [r1.length]; exact hz.2.2) fun p hp => q _ _ (.lst hp (r1.rep _))
  · split at e <;> cases e
    rename_i hz
    obtain ⟨p, vs, rfl, l1, r1⟩ := ra
    cases rb
    exact op_repT pins s σ H _ _ v u Q I rx ry ⟨p, _, vs, rfl, rfl, l1, fun z => hz.1 (by subst z; cases r1; rfl), hz.2.1, hz.2.2.1, by rw [r1.length]; exact hz.2.2.2, fun p hp => q _ _ (.tup hp (r1.rep _))⟩
  · split at e <;> cases e
    cases ra; cases rb
    exact op_pow pins s σ H _ _ v u Q I rx ry ⟨_, _, rfl, rfl, by assumption, q _ _ (.old (.int _))⟩
  · cases e
def cpOf : Cp → CmpOp
  | .eq => .Eq | .ne => .NotEq | .lt => .Lt | .le => .LtE | .gt => .Gt | .ge => .GtE | .isN => .Is | .notN => .IsNot | .inn => .In | .nin => .NotIn
def rCmp (K : PySem.W.Frag) (op : Cp) : R2 := fun x y H Q => ∃ B a b t, Ro K H B x a ∧ Ro K H B y b ∧ cmpD op a b = some t ∧ Q (.bl t) H
theorem eqD_ok {a b : D} {t : Bool} (e : eqD a b = some t) : t = PyData.eqv a b ∧ (scalD a b = true ∨ (SeqAt.shaped a = true ∧ SeqAt.shaped b = true)) := by
  unfold eqD at e
  split at e
  · cases e
    rename_i h
    rw [Bool.or_eq_true, Bool.and_eq_true] at h
    exact ⟨rfl, h⟩
  · cases e
theorem scal_eq {K : PySem.W.Frag} {H : Hp} {B : List Addr} {x y : V} {a b : D} (ra : Ro K H B x a) (rb : Ro K H B y b) (h : scalD a b = true) : scal x y = true ∧ decide (x = y) = PyData.eqv a b := by
  cases a <;> cases b <;> first
    | (cases ra; cases rb; refine ⟨rfl, ?_⟩; first | rfl | (unfold PyData.eqv; exact dec_bl) | (unfold PyData.eqv; exact dec_int) | (unfold PyData.eqv; exact dec_str))
    | (simp [scalD] at h; done)
theorem flat_of {K : PySem.W.Frag} {H : Hp} {B : List Addr} {v : V} {x : D} (h : Rp K H B v x) (f : flatD x = true) : flatV v = true := by
  cases h <;> first | rfl | cases f
theorem flat_all {K : PySem.W.Frag} {H : Hp} {B : List Addr} : ∀ {vs : List V} {xs : List D}, RpA K H B vs xs → xs.all flatD = true → vs.all flatV = true
  | _, _, .nil, _ => rfl
  | _, _, .cons h r, f => by
    simp only [List.all_cons, Bool.and_eq_true] at f ⊢
    exact ⟨flat_of h f.1, flat_all r f.2⟩
theorem eqV_eqv {K : PySem.W.Frag} {H : Hp} {B : List Addr} {v u : V} {x y : D} (h : Rp K H B v x) (h2 : Ro K H B u y) (f : flatD x = true) (f2 : flatD y = true) : eqV v u = PyData.eqv x y := by
  cases h <;> first
    | (simp [flatD] at f; done)
    | (cases y <;> first
      | (simp [flatD] at f2; done)
      | (cases h2; simp [eqV, PyData.eqv]; done)
      | (cases h2; simp [eqV, PyData.eqv, Bool.beq_eq_decide_eq]; done)
      | (cases h2; simp only [eqV, PyData.eqv]))
theorem ro_flat {K : PySem.W.Frag} {H : Hp} {B : List Addr} {v : V} {x : D} (h : Ro K H B v x) (f : flatD x = true) : flatV v = true := by
  cases x <;> first | (cases h; rfl) | cases f
theorem one_sign {a : Str} (h : a.cps.size = 1) : a = ⟨#[a.cps.toList.headD 0]⟩ := by
  obtain ⟨c⟩ := a
  obtain ⟨l⟩ := c
  have h' : l.length = 1 := by simpa using h
  obtain ⟨c, rfl⟩ := List.length_eq_one_iff.mp h'
  rfl
theorem any_eqv {K : PySem.W.Frag} {H : Hp} {B : List Addr} {u : V} {y : D} (h2 : Ro K H B u y) (f2 : flatD y = true) : ∀ {vs : List V} {xs : List D}, RpA K H B vs xs → xs.all flatD = true → inV u vs = xs.any fun x => PyData.eqv x y
  | _, _, .nil, _ => rfl
  | _, _, .cons h r, f => by
    simp only [List.all_cons, Bool.and_eq_true] at f
    have ih := any_eqv h2 f2 r f.2
    unfold inV at ih ⊢
    rw [List.any_cons, List.any_cons, ih, eqV_eqv h h2 f.1 f2]
theorem op_cmp (hu : X.A.units + 64 < cLine) (op : Cp) : OpR X (compareOp (cpOf op)) (rCmp X.K op) := by
  intro pins s σ H x y v u Q I rx ry h
  obtain ⟨B, a, b, t, ra, rb, e, q⟩ := h
  unfold cmpD at e
  split at e
  · obtain ⟨rfl, h | ⟨h1, h2⟩⟩ := eqD_ok e
    · obtain ⟨h1, h2⟩ := scal_eq ra rb h
      exact op_eq pins s σ H _ _ v u Q I rx ry ⟨h1, by rw [h2]; exact q⟩
    · exact op_eqD hu pins s σ H _ _ v u Q I rx ry ⟨_, _, ra.dp, rb.dp, h1, h2, q⟩
  · obtain ⟨t', e', rfl⟩ := Option.map_eq_some_iff.mp e
    obtain ⟨rfl, h | ⟨h1, h2⟩⟩ := eqD_ok e'
    · obtain ⟨h1, h2⟩ := scal_eq ra rb h
      exact op_ne pins s σ H _ _ v u Q I rx ry ⟨h1, by rw [h2]; exact q⟩
    · exact op_neD hu pins s σ H _ _ v u Q I rx ry ⟨_, _, ra.dp, rb.dp, h1, h2, q⟩
  · cases e; cases ra; cases rb
    exact op_lt pins s σ H _ _ v u Q I rx ry ⟨_, _, rfl, rfl, q⟩
  · cases e; cases ra; cases rb
    exact op_le pins s σ H _ _ v u Q I rx ry ⟨_, _, rfl, rfl, q⟩
  · cases e; cases ra; cases rb
    exact op_gt pins s σ H _ _ v u Q I rx ry ⟨_, _, rfl, rfl, q⟩
  · cases e; cases ra; cases rb
    exact op_ge pins s σ H _ _ v u Q I rx ry ⟨_, _, rfl, rfl, q⟩
  · cases rb
    refine op_isN pins s σ H _ _ v u Q I rx ry ⟨rfl, ?_⟩
    cases a <;> cases e <;> first
      | (cases ra; exact q)
      | (obtain ⟨p, xs, rfl, _, _⟩ := ra; exact q)
      | exact ra.elim
  · cases rb
    refine op_notN pins s σ H _ _ v u Q I rx ry ⟨rfl, ?_⟩
    cases a <;> cases e <;> first
      | (cases ra; exact q)
      | (obtain ⟨p, xs, rfl, _, _⟩ := ra; exact q)
      | exact ra.elim
  · cases e; cases ra; cases rb
    exact op_isBl pins s σ H _ _ v u Q I rx ry ⟨_, _, rfl, rfl, q⟩
  · cases e; cases ra; cases rb
    exact op_notBl pins s σ H _ _ v u Q I rx ry ⟨_, _, rfl, rfl, q⟩
  · split at e <;> cases e
    rename_i hf
    rw [Bool.and_eq_true] at hf
    obtain ⟨p, xs, rfl, l, rr⟩ := rb
    exact op_in_seq pins s σ H _ _ v u Q I rx ry ⟨p, xs, rfl, .inl l.sq, ro_flat ra hf.1, flat_all rr hf.2, by rw [any_eqv ra hf.1 rr hf.2]; exact q⟩
  · split at e <;> cases e
    rename_i hf
    rw [Bool.and_eq_true] at hf
    obtain ⟨p, xs, rfl, l, rr⟩ := rb
    exact op_in_seq pins s σ H _ _ v u Q I rx ry ⟨p, xs, rfl, .inr l, ro_flat ra hf.1, flat_all rr hf.2, by rw [any_eqv ra hf.1 rr hf.2]; exact q⟩
  · split at e <;> cases e
    rename_i hf
    rw [Bool.and_eq_true] at hf
    obtain ⟨p, xs, rfl, l, rr⟩ := rb
    exact op_notIn_seq pins s σ H _ _ v u Q I rx ry ⟨p, xs, rfl, .inl l.sq, ro_flat ra hf.1, flat_all rr hf.2, by rw [any_eqv ra hf.1 rr hf.2]; exact q⟩
  · split at e <;> cases e
    rename_i hf
    rw [Bool.and_eq_true] at hf
    obtain ⟨p, xs, rfl, l, rr⟩ := rb
    exact op_notIn_seq pins s σ H _ _ v u Q I rx ry ⟨p, xs, rfl, .inr l, ro_flat ra hf.1, flat_all rr hf.2, by rw [any_eqv ra hf.1 rr hf.2]; exact q⟩
  · split at e <;> cases e
    rename_i hs
    cases ra; cases rb
    exact op_in_sign pins s σ H _ _ v u Q I rx ry ⟨_, _, congrArg V.str (one_sign hs), rfl, q⟩
  · split at e <;> cases e
    rename_i hs
    cases ra; cases rb
    exact op_notIn_sign pins s σ H _ _ v u Q I rx ry ⟨_, _, congrArg V.str (one_sign hs), rfl, q⟩
  · cases e
theorem tru_of {K : PySem.W.Frag} {H : Hp} {B : List Addr} {x : V} {a : D} {k : Bool} (ra : Ro K H B x a) (e : truD a = some k) : TruV K x H k := by
  cases a with
  | none => cases ra; cases e; rfl
  | bool b => cases ra; cases e; rfl
  | int b => cases ra; cases e; rfl
  | str z =>
    cases ra
    unfold truD at e
    simp only at e
    split at e <;> cases e
    exact ⟨by assumption, rfl⟩
  | list ds =>
    obtain ⟨p, xs, rfl, l, r⟩ := ra
    cases e
    refine .inl ⟨xs, l.sq, ?_⟩
    cases r <;> rfl
  | tuple ds =>
    obtain ⟨p, xs, rfl, l, r⟩ := ra
    cases e
    refine .inr (.inl ⟨xs, l, ?_⟩)
    cases r <;> rfl
  | dict _ => cases e
/-! ### subscripts -/
def rSub (K : PySem.W.Frag) : R2 := fun x y H Q => ∃ B a b c, Ro K H B x a ∧ Ro K H B y b ∧ subD a b = some c ∧ ∀ z, Rp K H B z c → Q z H
theorem RpA.atI {K : PySem.W.Frag} {H : Hp} {B : List Addr} {vs : List V} {xs : List D} {i : Int} {x : D} (r : RpA K H B vs xs) (h : L2.atI xs i = some x) : ∃ v, L2.atI vs i = some v ∧ Rp K H B v x := by
  unfold L2.atI at h ⊢
  rw [r.length]
  cases e : ixN xs.length i with
  | none => rw [e] at h; cases h
  | some j =>
    rw [e] at h
    exact r.get h
theorem ix_sub : IxR X (rSub X.K) := by
  intro value slice pins s σ H x y v u Q I rx ry h hs
  obtain ⟨B, a, b, c, ra, rb, e, q⟩ := h
  unfold subD at e
  split at e
  · obtain ⟨p, xs, rfl, l, r⟩ := ra
    cases rb
    obtain ⟨w, e1, e2⟩ := r.atI e
    exact ix_list value slice pins s σ H _ _ v u Q I rx ry ⟨p, xs, _, w, rfl, rfl, l.sq, e1, q _ e2⟩ hs
  · obtain ⟨p, xs, rfl, l, r⟩ := ra
    cases rb
    obtain ⟨w, e1, e2⟩ := r.atI e
    exact ix_tup value slice pins s σ H _ _ v u Q I rx ry ⟨p, xs, _, w, rfl, rfl, l, e1, q _ e2⟩ hs
  · split at e
    · obtain ⟨ch, e1, rfl⟩ := Option.map_eq_some_iff.mp e
      cases ra
      cases rb
      exact ix_str value slice pins s σ H _ _ v u Q I rx ry ⟨_, _, ch, rfl, rfl, by assumption, e1, q _ (.str _)⟩ hs
    · cases e
  · cases e
/-! ### slices -/
def rSlc (K : PySem.W.Frag) : V → Option Int → Option Int → Hp → VK → Prop := fun x lo hi H Q => ∃ B a c, Ro K H B x a ∧ slcD a lo hi = some c ∧ ∀ z H', Fsh K H B z c H' → Q z H'
theorem RpA.cut {K : PySem.W.Frag} {H : Hp} {B : List Addr} {vs : List V} {xs : List D} (lo hi : Option Int) (r : RpA K H B vs xs) : RpA K H B (cutV vs lo hi) (cutD xs lo hi) := by
  unfold cutV cutD
  rw [r.length]
  exact (r.drop _).take _
theorem sl_slc : SlR X (rSlc X.K) := by
  intro pins s σ H x v vl vu lo hi sl Q I rx hs pl pu h
  obtain ⟨B, a, c, ra, e, q⟩ := h
  unfold slcD at e
  split at e
  · cases e
    obtain ⟨p, xs, rfl, l, r⟩ := ra
    exact sl_list pins s σ H _ v vl vu _ _ sl Q I rx hs pl pu ⟨p, xs, rfl, l.sq, fun np hp => q _ _ (.lst hp (r.cut _ _))⟩
  · cases e
    obtain ⟨p, xs, rfl, l, r⟩ := ra
    refine sl_tupA pins s σ H _ v vl vu _ _ sl Q I rx hs pl pu ⟨p, xs, rfl, l, fun z => ?_, fun _ np hp => q _ _ (.tup hp (r.cut _ _))⟩
    refine q _ _ (.old (.tup l ?_))
    have w := r.cut lo hi
    have e1 : cutV xs lo hi = xs := by
      unfold cutV
      rw [z.1, z.2]
      simp
    rw [e1] at w
    exact w
  · cases e
end Ev
end
section
namespace Ev
open PySem PySem.Spec PyProof.Rows L2
variable {X : Cx}
/-- arguments to be read -/
inductive RoA (K : PySem.W.Frag) (H : Hp) (B : List Addr) : List V → List D → Prop
  | nil : RoA K H B [] []
  | cons {v : V} {vs : List V} {x : D} {xs : List D} : Ro K H B v x → RoA K H B vs xs → RoA K H B (v :: vs) (x :: xs)
def rBi (K : PySem.W.Frag) (b : Bi) : List V → Hp → VK → Prop := fun vs H Q => ∃ B ds c, RoA K H B vs ds ∧ biD b ds = some c ∧ ∀ z H', Fsh K H B z c H' → Q z H'
theorem RpA.ints {K : PySem.W.Frag} {H : Hp} {B : List Addr} : ∀ {vs : List V} {xs : List D} {ns : List Int}, RpA K H B vs xs → intsD xs = some ns → vs = ns.map V.int
  | _, _, _, .nil, e => by cases e; rfl
  | _, _, _, .cons h r, e => by
    cases h with
    | int i =>
      unfold intsD at e
      obtain ⟨m, e1, rfl⟩ := Option.map_eq_some_iff.mp e
      rw [RpA.ints r e1]; rfl
    | _ => cases e
theorem RpA.bls {K : PySem.W.Frag} {H : Hp} {B : List Addr} : ∀ {vs : List V} {xs : List D} {ns : List Bool}, RpA K H B vs xs → blsD xs = some ns → vs = ns.map V.bl
  | _, _, _, .nil, e => by cases e; rfl
  | _, _, _, .cons h r, e => by
    cases h with
    | bl i =>
      unfold blsD at e
      obtain ⟨m, e1, rfl⟩ := Option.map_eq_some_iff.mp e
      rw [RpA.bls r e1]; rfl
    | _ => cases e
/-- repr of data -/
theorem call_show (hg : X.A.guards = some []) (hu : X.A.units + 70 < cLine) {B : List Addr} : CallR X (.builtin "repr") (fun vs H Q => ∃ v x c, vs = [v] ∧ Ro X.K H B v x ∧ showD x = some (.str c) ∧ Q (.str c) H) := by
  intro pins s σ H vs us Q I r h
  obtain ⟨v, x, c, rfl, ro, e, q⟩ := h
  obtain ⟨u, rfl, ru⟩ := vals1 r
  unfold showD at e
  split at e
  · rename_i hc
    cases e
    simp only [Bool.and_eq_true, decide_eq_true_eq, Bool.not_eq_true'] at hc
    obtain ⟨⟨⟨c1, c2⟩, c3⟩, c4⟩ := hc
    have seqs : ∀ {a : Addr}, u = .ref a → wpAny (model X.prog X.w) X.A (call (.builtin "repr") [u]) (EP X pins σ Q) X.xe s := fun {a} eu => by
      obtain ⟨as, rr⟩ := Dp.reads I x v u ro.dp ru
      subst eu
      exact repr_of_reads' rr c1 (fun z => by rw [c2] at z; cases z) hg (by omega) (fun _ _ z => z) (fun h' t tk k => ⟨.str _, H, I.kept k, ⟨_, rfl⟩, q⟩) c4
    cases x with
    | none => cases ro; cases ru; exact PySem.P.repr_of_none ⟨.str _, H, I.tok _, ⟨_, rfl⟩, q⟩
    | bool b => cases ro; cases ru; exact PySem.P.repr_of_bool ⟨.str _, H, I.tok _, ⟨_, rfl⟩, q⟩
    | int i =>
      cases ro
      obtain ⟨t, rfl⟩ := ru
      exact PySem.P.repr_of_int (of_decide_eq_true c1) ⟨.str _, H, I.tok _, ⟨_, rfl⟩, q⟩
    | str z =>
      cases ro
      obtain ⟨t, rfl⟩ := ru
      exact PySem.P.repr_of_str ⟨.str _, H, I.tok _, ⟨_, rfl⟩, q⟩ c4
    | list ds =>
      obtain ⟨a, xs, rfl, _, _⟩ := id ro
      exact seqs ru
    | tuple ds =>
      obtain ⟨a, xs, rfl, _, _⟩ := id ro
      exact seqs ru
    | dict _ => exact (show False from ro).elim
  · cases e
theorem foldmin : ∀ (ns : List Int) (n : Int), ns.foldl min n ∈ n :: ns ∧ ∀ y ∈ n :: ns, ns.foldl min n ≤ y
  | [], n => ⟨by simp, fun y hy => by simp at hy; simp [hy]⟩
  | a :: ns, n => by
    obtain ⟨h1, h2⟩ := foldmin ns (min n a)
    refine ⟨?_, fun y hy => ?_⟩
    · rw [List.foldl_cons]
      rcases List.mem_cons.mp h1 with e | e
      · rw [e]
        rcases Int.le_total n a with h | h
        · rw [Int.min_eq_left h]; simp
        · rw [Int.min_eq_right h]; simp
      · simp [e]
    · rw [List.foldl_cons]
      have h3 := h2 (min n a) List.mem_cons_self
      rcases List.mem_cons.mp hy with e | e
      · subst e; exact Int.le_trans h3 (Int.min_le_left _ _)
      · rcases List.mem_cons.mp e with e | e
        · subst e; exact Int.le_trans h3 (Int.min_le_right _ _)
        · exact h2 y (List.mem_cons_of_mem _ e)
theorem foldmax : ∀ (ns : List Int) (n : Int), ns.foldl max n ∈ n :: ns ∧ ∀ y ∈ n :: ns, y ≤ ns.foldl max n
  | [], n => ⟨by simp, fun y hy => by simp at hy; simp [hy]⟩
  | a :: ns, n => by
    obtain ⟨h1, h2⟩ := foldmax ns (max n a)
    refine ⟨?_, fun y hy => ?_⟩
    · rw [List.foldl_cons]
      rcases List.mem_cons.mp h1 with e | e
      · rw [e]
        rcases Int.le_total n a with h | h
        · rw [Int.max_eq_right h]; simp
        · rw [Int.max_eq_left h]; simp
      · simp [e]
    · rw [List.foldl_cons]
      have h3 := h2 (max n a) List.mem_cons_self
      rcases List.mem_cons.mp hy with e | e
      · subst e; exact Int.le_trans (Int.le_max_left _ _) h3
      · rcases List.mem_cons.mp e with e | e
        · subst e; exact Int.le_trans (Int.le_max_right _ _) h3
        · exact h2 y (List.mem_cons_of_mem _ e)
theorem min_is {n m : Int} {ns : List Int} (hm : m ∈ n :: ns) (h : ∀ y, y ∈ n :: ns → m ≤ y) : m = ns.foldl min n := by
  obtain ⟨h1, h2⟩ := foldmin ns n
  exact Int.le_antisymm (h _ h1) (h2 m hm)
theorem max_is {n m : Int} {ns : List Int} (hm : m ∈ n :: ns) (h : ∀ y, y ∈ n :: ns → y ≤ m) : m = ns.foldl max n := by
  obtain ⟨h1, h2⟩ := foldmax ns n
  exact Int.le_antisymm (h2 m hm) (h _ h1)
def biId : Bi → Value
  | .len => .builtin "len" | .abs => .builtin "abs" | .repr => .builtin "repr" | .min => .builtin "min" | .max => .builtin "max"
  | .tuple => .type "tuple" | .list => .type "list" | .int => .type "int" | .all => .builtin "all" | .any => .builtin "any" | .sum => .builtin "sum"
theorem call_bi (hc : X.calm = true) (hg : X.A.guards = some []) (hu : X.A.units + 70 < cLine) (b : Bi) : CallR X (biId b) (rBi X.K b) := by
  intro pins s σ H vs us Q I r h
  obtain ⟨B, ds, c, ra, e, q⟩ := h
  unfold biD at e
  split at e
  · cases e; cases ra with | cons h ra => cases ra; obtain ⟨a, xs, rfl, l, rr⟩ := h; exact call_len_seq pins s σ H _ us Q I r ⟨a, xs, rfl, .inl l.sq, q _ _ (.old (by rw [rr.length]; exact .int _))⟩
  · cases e; cases ra with | cons h ra => cases ra; obtain ⟨a, xs, rfl, l, rr⟩ := h; exact call_len_seq pins s σ H _ us Q I r ⟨a, xs, rfl, .inr l, q _ _ (.old (by rw [rr.length]; exact .int _))⟩
  · split at e <;> cases e
    cases ra with | cons h ra => cases ra; cases h; exact call_len_str pins s σ H _ us Q I r ⟨_, rfl, by assumption, q _ _ (.old (.int _))⟩
  · cases e; cases ra with | cons h ra => cases ra; cases h; exact call_abs pins s σ H _ us Q I r ⟨_, rfl, q _ _ (.old (.int _))⟩
  · cases ra with
    | cons h ra =>
      cases ra
      have e' := e
      unfold showD at e'
      split at e'
      · cases e'
        exact call_show hg hu pins s σ H _ us Q I r ⟨_, _, _, rfl, h, e, q _ _ (.old (.str _))⟩
      · cases e'
  · cases e; cases ra with | cons h ra => cases ra with | cons h2 ra => cases ra; cases h; cases h2; exact call_min2 hc pins s σ H _ us Q I r ⟨_, _, rfl, q _ _ (.old (.int _))⟩
  · cases e; cases ra with | cons h ra => cases ra with | cons h2 ra => cases ra; cases h; cases h2; exact call_max2 hc pins s σ H _ us Q I r ⟨_, _, rfl, q _ _ (.old (.int _))⟩
  · cases e; cases ra with | cons h ra => cases ra; obtain ⟨a, xs, rfl, l, rr⟩ := h; exact call_tuple_of pins s σ H _ us Q I r ⟨a, xs, rfl, .inl ⟨l.sq, fun p hp => q _ _ (.tup hp rr)⟩⟩
  · cases e; cases ra with | cons h ra => cases ra; obtain ⟨a, xs, rfl, l, rr⟩ := h; exact call_tuple_of pins s σ H _ us Q I r ⟨a, xs, rfl, .inr ⟨l, q _ _ (.old (.tup l rr))⟩⟩
  · cases e; cases ra with | cons h ra => cases ra; obtain ⟨a, xs, rfl, l, rr⟩ := h; exact call_list_of pins s σ H _ us Q I r ⟨a, xs, rfl, .inl l.sq, fun p hp => q _ _ (.lst hp rr)⟩
  · cases e; cases ra with | cons h ra => cases ra; obtain ⟨a, xs, rfl, l, rr⟩ := h; exact call_list_of pins s σ H _ us Q I r ⟨a, xs, rfl, .inr l, fun p hp => q _ _ (.lst hp rr)⟩
  · cases e; cases ra with | cons h ra => cases ra; cases h; exact call_int1 pins s σ H _ us Q I r (.inl ⟨_, rfl, q _ _ (.old (.int _))⟩)
  · cases e; cases ra with | cons h ra => cases ra; cases h; exact call_int1 pins s σ H _ us Q I r (.inr ⟨_, rfl, q _ _ (.old (.int _))⟩)
  · cases ra with
    | cons h ra =>
      cases ra
      obtain ⟨bs, e1, rfl⟩ := Option.map_eq_some_iff.mp e
      obtain ⟨a, xs, rfl, l, rr⟩ := h
      rw [rr.bls e1] at l
      exact cr_all hc pins s σ H _ us Q I r ⟨a, bs, rfl, l.sq, q _ _ (.old (.bl _))⟩
  · cases ra with
    | cons h ra =>
      cases ra
      obtain ⟨bs, e1, rfl⟩ := Option.map_eq_some_iff.mp e
      obtain ⟨a, xs, rfl, l, rr⟩ := h
      rw [rr.bls e1] at l
      exact cr_any hc pins s σ H _ us Q I r ⟨a, bs, rfl, l.sq, q _ _ (.old (.bl _))⟩
  · cases ra with
    | cons h ra =>
      cases ra
      obtain ⟨bs, e1, rfl⟩ := Option.map_eq_some_iff.mp e
      obtain ⟨a, xs, rfl, l, rr⟩ := h
      rw [rr.ints e1] at l
      exact cr_sum hc pins s σ H _ us Q I r ⟨a, bs, rfl, l.sq, q _ _ (.old (.int _))⟩
  · split at e
    · rename_i n ns e1
      cases e
      cases ra with
      | cons h ra =>
        cases ra
        obtain ⟨a, xs, rfl, l, rr⟩ := h
        rw [rr.ints e1] at l
        refine cr_min hc pins s σ H _ us Q I r ⟨a, n :: ns, rfl, l.sq, by simp, fun m hm hle => ?_⟩
        rw [min_is hm hle]
        exact q _ _ (.old (.int _))
    · cases e
  · split at e
    · rename_i n ns e1
      cases e
      cases ra with
      | cons h ra =>
        cases ra
        obtain ⟨a, xs, rfl, l, rr⟩ := h
        rw [rr.ints e1] at l
        refine cr_max hc pins s σ H _ us Q I r ⟨a, n :: ns, rfl, l.sq, by simp, fun m hm hle => ?_⟩
        rw [max_is hm hle]
        exact q _ _ (.old (.int _))
    · cases e
  · cases e
/-! ### isinstance -/
def tyS : Ty → String
  | .int => "int" | .bool => "bool" | .str => "str" | .list => "list" | .tuple => "tuple"
def tyD : D → String
  | .none => "NoneType" | .bool _ => "bool" | .int _ => "int" | .str _ => "str" | .list _ => "list" | .tuple _ => "tuple" | .dict _ => "dict"
theorem kit0 : ∀ t : Ty, kitB "NoneType" (tyS t) = some (isTy t .none) := fun t => by cases t <;> decide +kernel
theorem kit1 : ∀ t : Ty, kitB "bool" (tyS t) = some (isTy t (.bool true)) := fun t => by cases t <;> decide +kernel
theorem kit2 : ∀ t : Ty, kitB "int" (tyS t) = some (isTy t (.int 0)) := fun t => by cases t <;> decide +kernel
theorem kit3 : ∀ t : Ty, kitB "str" (tyS t) = some (isTy t (.str Str.empty)) := fun t => by cases t <;> decide +kernel
theorem kit4 : ∀ t : Ty, kitB "list" (tyS t) = some (isTy t (.list [])) := fun t => by cases t <;> decide +kernel
theorem kit5 : ∀ t : Ty, kitB "tuple" (tyS t) = some (isTy t (.tuple [])) := fun t => by cases t <;> decide +kernel
theorem isTy_kit (t : Ty) (x : D) (h : ∀ kvs, x ≠ .dict kvs) : kitB (tyD x) (tyS t) = some (isTy t x) := by
  cases x with
  | none => exact kit0 t
  | bool b => exact (kit1 t).trans (by cases t <;> rfl)
  | int i => exact (kit2 t).trans (by cases t <;> rfl)
  | str z => exact (kit3 t).trans (by cases t <;> rfl)
  | list z => exact (kit4 t).trans (by cases t <;> rfl)
  | tuple z => exact (kit5 t).trans (by cases t <;> rfl)
  | dict z => exact absurd rfl (h z)
theorem ro_ty {K : PySem.W.Frag} {H : Hp} {B : List Addr} {v : V} {x : D} (h : Ro K H B v x) : TyX K H v (.type (tyD x)) := by
  cases x with
  | none => cases h; exact .base .non
  | bool b => cases h; exact .base (.bl b)
  | int b => cases h; exact .base (.int b)
  | str b => cases h; exact .base (.str b)
  | list ds =>
    obtain ⟨a, xs, rfl, l, _⟩ := h
    rcases l with (l | ⟨o, l⟩) | ⟨its, n, e, _, _⟩
    · exact .base (.lst l)
    · exact .base (.frz l)
    · exact .kList e rfl
  | tuple ds =>
    obtain ⟨a, xs, rfl, l, _⟩ := h
    rcases l with (l | ⟨o, l⟩) | ⟨o, its, n, e, c, _⟩
    · exact .base (.tup l)
    · exact .fTuple l
    · exact .kTuple e c
  | dict _ => exact h.elim
theorem ro_nodict {K : PySem.W.Frag} {H : Hp} {B : List Addr} {v : V} {x : D} (h : Ro K H B v x) : ∀ kvs, x ≠ .dict kvs := fun kvs e => by
  subst e
  exact h
end Ev
end
section
set_option maxRecDepth 10000
/-! t[::-1] of a tuple -/
namespace Ev
open PySem PySem.Spec PyProof.Rows L2
section
variable {prog : Program} {w : World} {A : Around} {E : Value → Shared → Prop} {s : Shared}
theorem adj_back (n : Nat) : Builtin.Slice.sliceAdjust none none (-1) (n : Int) = ((n : Int) - 1, -1) := rfl
theorem plc_back (n : Nat) : Builtin.Slice.slicePlaces ((n : Int) - 1) (-1) (-1) = n := by
  unfold Builtin.Slice.slicePlaces
  simp only [show ¬ ((-1 : Int) > 0) by decide, if_false]
  split
  · rw [show (- -1 : Int) = 1 by decide, Int.ediv_one]; omega
  · omega
theorem pick_back (xs : Array Value) : ((List.range xs.size).filterMap fun (m : Nat) => xs[((xs.size : Int) - 1 + (m : Int) * (-1)).toNat]?).toArray = xs.toList.reverse.toArray := by
  rw [← PySem.W.krv_all xs, ← List.filterMap_reverse, ← PySem.W.krv_range, List.filterMap_map]
  congr 2
  funext m
  show xs[((xs.size : Int) - 1 + (m : Int) * (-1)).toNat]? = xs[xs.size - 1 - m]?
  rw [show ((xs.size : Int) - 1 + (m : Int) * (-1)).toNat = xs.size - 1 - m by omega]
theorem tup_back {t sl : Addr} {its : Array Value} {v1 v2 v3 : Value} {Q : Value → Shared → Prop} (ht : IsTup s.heap t its) (hs : s.heap.IsSliceOf sl v1 v2 v3) (p1 : IsPart v1 none) (p2 : IsPart v2 none) (p3 : IsPart v3 (some (-1)))
    (h : Q (.ref s.heap.objs.size) { s with heap := s.heap.push { cls := .type "tuple", data := .seq its.toList.reverse.toArray } }) (hz : its.size ≤ sizeLine) : wpAny (model prog w) A (getItem (.ref t) (.ref sl)) Q E s := by
  have small : sizeOk (.seq its.toList.reverse.toArray) := by
    show its.toList.reverse.toArray.size ≤ sizeLine
    rw [List.size_toArray, List.length_reverse, Array.length_toList]; exact hz
  obtain ⟨o1, ho, hc, hd⟩ := id hs
  have ty : s.TypeIs (.ref sl) "slice" := ⟨o1, ho, hc⟩
  unfold getItem
  try with_reducible refine wpAny_holding ?_
  first | refine wpAny_bind (wpAny_pure ?_) | skip
  refine wpAny_bind (wpAny_sequenceKey ht.typeIs (by decide) ?_)
  refine wpAny_bind (wpAny_callSpecial?_slot (name := Str.ofString "__getitem__") ht.typeIs PyProof.Rows.slot_tuple_getitem (wpAny_call_entry PyProof.Rows.slot_tuple_getitem ht.typeIs entry_tuple_getitem ?_ (args_tuple_getitem _ _)))
  show wpAny _ _ (Builtin.Tuple.tupleItemsOf (.ref t) >>= _) _ _ s
  refine wpAny_bind (tupleItemsOf_ ht (wpAny_bind (wpAny_typeOf ty ?_)))
  rw [if_pos (by decide)]
  refine wpAny_bind (Q := _) (m := Builtin.Slice.sliceApplied (.ref sl) (pure (its.size : Int))) ?_
  unfold Builtin.Slice.sliceApplied Builtin.Slice.sliceFields
  refine wpAny_bind (wpAny_bind (wpAny_field ho hd (x := v1) rfl (wpAny_bind (wpAny_field ho hd (x := v2) rfl (wpAny_bind (wpAny_field ho hd (x := v3) rfl (wpAny_pure ?_)))))))
  refine wpAny_bind (HT.slicePart_ p3 ?_)
  show wpAny _ _ (if ((-1 : Int) == 0) = true then _ else _) _ _ s
  rw [if_neg (by decide)]
  refine wpAny_bind (HT.slicePart_ p1 (wpAny_bind (HT.slicePart_ p2 (wpAny_bind (wpAny_pure ?_)))))
  show wpAny _ _ (pure ((its.size : Int) - 1, (-1 : Int), Builtin.Slice.slicePlaces ((its.size : Int) - 1) (-1) (-1))) _ _ s
  rw [plc_back]
  refine wpAny_pure ?_
  have no : ¬ (((its.size : Int) - 1 == 0 && (-1 : Int) == 1 && its.size == its.size) = true) := by
    intro q
    rw [Bool.and_eq_true, Bool.and_eq_true] at q
    exact absurd q.1.2 (by decide)
  show wpAny _ _ (if ((its.size : Int) - 1 == 0 && (-1 : Int) == 1 && its.size == its.size) = true then _ else _) _ _ s
  rw [if_neg no, pick_back]
  first
    | exact wpAny_bind (m := Builtin.Tuple.tupleExact _) (wpAny_newObj_type (wpAny_pure ⟨_, rfl, wpAny_pure h⟩) small)
    | exact wpAny_bind (m := Builtin.Tuple.tupleExact _) (wpAny_newObj_type (wpAny_bind (wpAny_pure (wpAny_pure ⟨_, rfl, wpAny_pure h⟩))) small)
    | exact wpAny_bind (wpAny_bind (m := Builtin.Tuple.tupleExact _) (wpAny_newObj_type (wpAny_pure (wpAny_pure ⟨_, rfl, wpAny_pure h⟩)) small))
    | exact wpAny_bind (wpAny_bind (m := Builtin.Tuple.tupleExact _) (wpAny_newObj_type (wpAny_pure ⟨_, rfl, wpAny_pure h⟩) small))
end
section
variable {X : Cx}
def tRev (K : PySem.W.Frag) (te : TE) : TE := fun σ H Q => te σ H fun x H1 => ∃ a xs, x = .ref a ∧ ((LL K H1 a xs ∧ ∀ p, H1 p = none → Q (.ref p) (upd H1 p (.lst xs.reverse))) ∨ (SqT K H1 a xs ∧ ∀ p, H1 p = none → Q (.ref p) (upd H1 p (.tup xs.reverse))))
theorem pe_rev {e : Expr} {te : TE} {k : Nat} {p1 p2 p3 pos : Pos} (he : PE X e te) : PE X (.Subscript e (.Slice none none (some (.UnaryOp .USub (.Constant (.int 1) k p1) p2)) p3) pos) (tRev X.K te) := by
  refine ⟨fun pins s σ H Q I h => ?_⟩
  refine Subscript_ (thn (he.run pins s σ H _ I h) fun v s1 ⟨x, H1, I1, r1, q1⟩ => ?_)
  obtain ⟨a, xs, ex, q⟩ := q1
  subst ex
  cases r1
  have stp : PO X (some (.UnaryOp .USub (.Constant (.int 1) k p1) p2)) (tPart (tUn (rU fun i => .int (-i)) (tC (.int 1)))) := po_some (pe_un un_neg pe_int)
  refine wpAny_Slice (thn (po_none.run pins s1 σ H1 (fun o H2 => o = none ∧ H2 = H1) I1 ⟨rfl, rfl⟩) fun vl s2 ⟨l, H2, I2, pl, el, e2⟩ => ?_)
  subst el e2
  refine thn (po_none.run pins s2 σ H2 (fun o H3 => o = none ∧ H3 = H2) I2 ⟨rfl, rfl⟩) fun vu s3 ⟨u, H3, I3, pu, eu, e3⟩ => ?_
  subst eu e3
  refine thn (stp.run pins s3 σ H3 (fun o H4 => o = some (-1) ∧ H4 = H3) I3 ⟨1, rfl, -1, rfl, rfl, rfl⟩) fun vs s4 ⟨o, H4, I4, ps, eo, e4⟩ => ?_
  subst eo e4
  have J : Inv X pins σ H4 { s4 with heap := s4.heap.push { cls := .type "slice", data := .fields #[vl, vu, vs] } } := I4.kept (t' := s4.toks) fun b ob q => Heap.get?_push_of_some _ q
  show wpAny (model X.prog X.w) X.A (subscriptTail e (.Slice none none (some (.UnaryOp .USub (.Constant (.int 1) k p1) p2)) p3) (.ref a) (.ref s4.heap.objs.size)) (EP X pins σ Q) X.xe { s4 with heap := s4.heap.push { cls := .type "slice", data := .fields #[vl, vu, vs] } }
  rcases q with ⟨hx, q⟩ | ⟨hx, q⟩
  · obtain ⟨its, r, ht, hz⟩ := J.list hx.sq
    have hlen := r.length
    refine tail_any (ops := [.ref a, .ref s4.heap.objs.size]) ht.isList.typeIs (PySem.slot_list_getitem.lookup) ?_ (by with_unfolding_all rfl)
    refine wpAny_getItem_list_slice ht.isList (Heap.IsSliceOf.new _ vl vu vs) pl pu ps (by decide) ?_ (by rw [List.size_toArray]; omega)
    rw [PySem.W.krv_pick]
    exact ⟨.ref _, _, J.laid (t' := s4.toks) (o := .lst xs.reverse) (fun b ob q => Heap.get?_push_of_some _ q) (Nat.le_refl _) ⟨by rw [List.length_reverse]; exact hz, _, 0, r.reverse, Heap.get?_push_size _ rfl⟩, rfl, q _ (J.hok.fresh (Nat.le_refl _))⟩
  · obtain ⟨its, r, ht, hz⟩ := J.tuple hx
    have hlen := r.length
    refine tail_any (ops := [.ref a, .ref s4.heap.objs.size]) ht.typeIs (PyProof.Rows.slot_tuple_getitem.lookup) ?_ (by with_unfolding_all rfl)
    refine tup_back ht (Heap.IsSliceOf.new _ vl vu vs) pl pu ps ?_ (by rw [List.size_toArray]; omega)
    exact ⟨.ref _, _, J.laid (t' := s4.toks) (o := .tup xs.reverse) (fun b ob q => Heap.get?_push_of_some _ q) (Nat.le_refl _) ⟨by rw [List.length_reverse]; exact hz, _, r.reverse, IsTup.new _ _⟩, rfl, q _ (J.hok.fresh (Nat.le_refl _))⟩
end
end Ev
end
section
set_option maxRecDepth 10000
/-! a, *b, c = a tuple -/
namespace Ev
open PySem PySem.Spec PyProof.Rows L2
section
variable {prog : Program} {w : World} {A : Around} {E : Value → Shared → Prop} {s : Shared}
theorem un_star {t : Addr} {its : Array Value} {n i : Nat} {Q : List Value → Shared → Prop} (ht : IsTup s.heap t its) (hh : A.handled = none) (hi : i < n) (hn : n ≤ its.size + 1) (hz : its.size ≤ sizeLine)
    (h : ∀ hp tk, Heap.ExtBut s.heap.objs.size s.heap hp → Q (its.toList.take i ++ [.ref hp.objs.size] ++ (its.toList.drop i).drop (its.size + 1 - n)) { s with heap := hp.push { cls := .type "list", data := .seq ((its.toList.drop i).take (its.size + 1 - n)).toArray }, toks := tk }) :
    wpAny (model prog w) A (unpackItems (.ref t) n (some i)) Q E s := by
  have ne : t ≠ s.heap.objs.size := by obtain ⟨o, ho, _⟩ := ht; exact Nat.ne_of_lt (Heap.lt_size ho)
  have len : its.toList.length = its.size := Array.length_toList
  unfold unpackItems
  refine wpAny_bind ?_
  unfold notIterableAtAll
  refine wpAny_bind (wpAny_specialOf ht.typeIs slot_tuple_iter.lookup (wpAny_pure ?_))
  simp only [Bool.false_eq_true, if_false]
  refine wpAny_bind (wpAny_holding (iter_tuple ht (wpAny_bind (wpAny_holding (draw_tuple ne i 0 _ _ ⟨_, Heap.get?_push_size _ rfl, rfl, rfl⟩ (ht.push _) (by omega) fun h1 t1 b1 => ?_)))))
  have ht1 : IsTup h1 t its := (ht.push _).extBut b1.extBut ne
  rw [Nat.zero_add] at t1
  have lt1 : s.heap.objs.size < h1.objs.size := by obtain ⟨o, ho, _⟩ := id t1; exact Heap.lt_size ho
  have lt2 : t < h1.objs.size := by obtain ⟨o, ho, _⟩ := id ht1; exact Heap.lt_size ho
  rw [List.drop_zero, if_neg (by rw [List.length_take, len]; omega)]
  refine wpAny_bind (wpAny_holding (PySem.W.kun_collect (s := { s with heap := h1 }) (T := "tuple_iterator") (.inr (.inr (.inr rfl))) (Walks.tuple (A := A.in1) hh _ t ne its) (fun j u st => st.1.typeIs) (k := i) (by omega) ⟨t1, ht1⟩ lt1 lt2 (fun h2 tk hk => ?_) hz))
  have dl : (its.toList.drop i).length = its.size - i := by rw [List.length_drop, len]
  have md : (its.toList.drop i).length - (n - 1 - i) = its.size + 1 - n := by rw [dl]; omega
  show wpAny _ _ (if (its.toList.drop i).length < n - 1 - i then _ else _) _ _ _
  rw [if_neg (by rw [dl]; omega)]
  show wpAny _ _ (newList ((its.toList.drop i).take ((its.toList.drop i).length - (n - 1 - i))) >>= fun d => pure (its.toList.take i ++ [d] ++ (its.toList.drop i).drop ((its.toList.drop i).length - (n - 1 - i)))) _ _ _
  rw [md]
  refine wpAny_bind (wpAny_newObj_type (wpAny_pure (h h2 tk fun b o hb e => hk b o hb (b1.extBut b o hb (Heap.get?_push_of_some _ e)))) ?_)
  show ((its.toList.drop i).take (its.size + 1 - n)).toArray.size ≤ sizeLine
  rw [List.size_toArray, List.length_take, dl]
  omega
end
section
variable {X : Cx} {pos : Pos}
def packV (i n : Nat) (xs : List V) (p : V) : List V := xs.take i ++ [p] ++ (xs.drop i).drop (xs.length + 1 - n)
def gTupS (K : PySem.W.Frag) (i n : Nat) (t : TGs) : TG := fun v σ H Q => ∃ a xs, v = .ref a ∧ SqT K H a xs ∧ i < n ∧ n ≤ xs.length + 1 ∧ ∀ p, H p = none → t (packV i n xs (.ref p)) σ (upd H p (.lst ((xs.drop i).take (xs.length + 1 - n)))) Q
theorem pg_tupS {es : List Expr} {k i n : Nat} {t : TGs} (hc : X.calm = true) (h : PGs X es t) (hn : (assignEach es X.env).length = n) (hst : (assignEach es X.env).findIdx? (·.1) = some i) : PG X (.Tuple es k pos) (gTupS X.K i n t) := by
  refine ⟨fun pins s σ H v u Q I r hw => ?_⟩
  obtain ⟨a, xs, e1, hq, hi, hl, hw⟩ := hw
  subst e1
  cases r
  obtain ⟨its, rv, ht, hz⟩ := I.tuple hq
  have hlen := rv.length
  rw [assign_Tuple]
  refine wpAny_bind (wpAny_standAt ?_)
  unfold unpack
  rw [hn, hst]
  refine wpAny_bind (wpAny_holding (un_star ht (I.ok.hd hc) hi (by rw [List.size_toArray]; omega) (by rw [List.size_toArray]; omega) fun hp tk he => ?_))
  have sz : its.toArray.size = xs.length := by rw [List.size_toArray]; exact hlen.symm
  rw [sz]
  have J : Inv X pins σ H { s with heap := hp, toks := tk } := I.kept (t' := tk) fun b o e => he b o (Nat.ne_of_lt (Heap.lt_size e)) e
  have fr : H hp.objs.size = none := J.hok.fresh (Nat.le_refl _)
  have J2 : Inv X pins σ (upd H hp.objs.size (.lst ((xs.drop i).take (xs.length + 1 - n)))) { s with heap := hp.push { cls := .type "list", data := .seq ((its.toArray.toList.drop i).take (xs.length + 1 - n)).toArray }, toks := tk } := by
    refine J.laid (t' := tk) (fun b ob q => Heap.get?_push_of_some _ q) (Nat.le_refl _) ⟨?_, _, 0, (rv.drop i).take (xs.length + 1 - n), ?_⟩
    · rw [List.length_take, List.length_drop]; omega
    · exact Heap.get?_push_size _ rfl
  have one : Vals [V.ref hp.objs.size] [Value.ref hp.objs.size] := .cons rfl .nil
  exact h.run pins _ σ _ _ _ Q J2 (((rv.take i).append one).append ((rv.drop i).drop (xs.length + 1 - n))) (hw _ fr)
/-- a target behind a star -/
theorem pgs_star {e : Expr} {es : List Expr} {t : TG} {u : TGs} {p : Pos} (h1 : PG X e t) (h2 : PGs X es u) (hs : (assignEach (.Starred e p :: es) X.env).map (·.2) = assign e X.env :: (assignEach es X.env).map (·.2)) : PGs X (.Starred e p :: es) (gCons t u) := by
  refine ⟨fun pins s σ H vs us Q I r h => ?_⟩
  obtain ⟨v, vr, e1, h⟩ := h
  subst e1
  cases r with
  | cons r rr =>
    rw [hs]
    exact assignInOrder_cons (thn (h1.run pins s σ H _ _ _ I r h) fun _ s1 ⟨σ1, H1, I1, q1⟩ => h2.run pins s1 σ1 H1 _ _ Q I1 rr q1)
end
end Ev
end
section
namespace Ev
open PySem PySem.Spec PyProof.Rows L2
/-- a form of calls with keywords: the function, its name, how many values stand ahead, the keywords' names, the parameters' values -/
structure KForm where
  f : Nat
  name : Str
  np : Nat
  ks : List Str
  /-- keyword-only parameters that lack -/
  ms : List Str
  arr : List KA
/-- where a text stands: slots, scope, whether a cell may be written, the names of functions, constants, and of built-ins that are not hidden -/
structure Ck where
  N : List Str
  sc : Scope
  fn : Str → Bool
  FN : List Str
  CN : List Str
  BN : List Str
  /-- within an except suite, or called there -/
  hot : Bool
  /-- which functions are called there -/
  FH : List Nat
  /-- classes that are raised, with their fields; fields that are read -/
  XN : List (Str × List Str)
  FL : List Str
  /-- classes that are named -/
  CL : List Str
  KF : List KForm
def visB (sc : Scope) (x : Str) : Bool := match sc.names.lookup x with
  | some .local => true
  | some .cell => true
  | some .free => true
  | _ => false
def dbg (x : Str) : Bool := !(x == ("__debug__" : Str)) && !(x == ("__classdict__" : Str)) && !(decide (x = ("__name__" : Str)))
def glB (sc : Scope) (x : Str) : Bool := (match sc.names.lookup x with
  | some .globalImplicit => true
  | _ => false) && dbg x
def locB (k : Ck) (x : Str) : Bool := match k.sc.names.lookup x with
  | some .local => true
  | some .cell => k.fn x
  | _ => false
def tOk : Expr → Bool
  | .IfExp .. => false
  | _ => true
def noSlice : Expr → Bool
  | .Slice .. => false
  | _ => true
def noStar : Expr → Bool
  | .Starred .. => false
  | _ => true
def noSet : Expr → Bool
  | .Set .. => false
  | _ => true
def noComp : Expr → Bool
  | .ListComp .. => false
  | .SetComp .. => false
  | .DictComp .. => false
  | _ => true
def noCall : Expr → Bool
  | .Call .. => false
  | _ => true
def biName : Bi → Str
  | .len => "len" | .abs => "abs" | .repr => "repr" | .min => "min" | .max => "max" | .tuple => "tuple" | .list => "list" | .int => "int" | .all => "all" | .any => "any" | .sum => "sum"
def mtName : Mt → Str
  | .append => "append" | .count => "count" | .extend => "extend" | .pop => "pop" | .insert => "insert"
def tyName : Ty → Str
  | .int => "int" | .bool => "bool" | .str => "str" | .list => "list" | .tuple => "tuple"
def ckKeys : List Str → List (Option Expr) → Bool
  | [], [] => true
  | k :: ks, o :: os => (match o with
    | some (.Constant (.str x) _ _) => decide (x = k)
    | _ => false) && ckKeys ks os
  | _, _ => false
mutual
def ckG (k : Ck) : G → Expr → Bool
  | .var i, e => (match e with
    | .Name x _ => decide (k.N[i]? = some x) && locB k x
    | _ => false)
  | .tup gs, e => (match e with
    | .Tuple es _ _ => !k.hot && ckGs k gs es
    | _ => false)
  | .tupS i gs, e => (match e with
    | .Tuple es _ _ => !k.hot && ckGsS k gs i es
    | _ => false)
def ckGs (k : Ck) : Gs → List Expr → Bool
  | .nil, [] => true
  | .cons g r, e :: es => ckG k g e && ckGs k r es
  | _, _ => false
def ckGsS (k : Ck) : Gs → Nat → List Expr → Bool
  | .nil, _, _ => false
  | .cons g r, 0, e :: es => (match e with
    | .Starred e' _ => ckG k g e' && ckGs k r es
    | _ => false)
  | .cons g r, i + 1, e :: es => ckG k g e && ckGsS k r i es
  | .cons _ _, _, [] => false
end
def ownSlots (own : List (Str × Nat)) : List Nat := own.map (·.2)
mutual
def gIn (own : List Nat) : G → Bool
  | .var i => own.contains i
  | .tup gs => gsIn own gs
  | .tupS _ gs => gsIn own gs
def gsIn (own : List Nat) : Gs → Bool
  | .nil => true
  | .cons g r => gIn own g && gsIn own r
end
def ownOf (N : List Str) : List Nat → List (Str × Nat)
  | [] => []
  | i :: r => ((N[i]?).getD Str.empty, i) :: ownOf N r
def Ck.blk (k : Ck) (scope : Scope) : Ck := { k with sc := relS scope k.sc, fn := fun x => scope.names.lookup x == some .cell }
def ckO (o : Option Expr) (b : Bool) (f : Expr → Bool) : Bool := match o with
  | none => b
  | some x => !b && f x
/-- the keywords of zip -/
def strictB (s : Bool) (kws : List Keyword) : Bool := match kws with
  | [] => !s
  | [⟨some x, .Constant (.bool true) _ _, _⟩] => s && decide (x = ("strict" : Str))
  | _ => false
/-- zip's pairs are taken apart at once -/
def itTg : It → Expr → Bool
  | .enu _, t => (match t with
    | .Tuple .. => true
    | _ => false)
  | .ezip _ _ _, t => (match t with
    | .Tuple .. => true
    | _ => false)
  | .zip _ _ _, t => (match t with
    | .Tuple .. => true
    | _ => false)
  | _, _ => true
/-- names of classes -/
def clsNs (sc : Scope) : List Str → List Expr → Bool
  | [], [] => true
  | n :: ns, t :: ts => (match t with
    | .Name x _ => decide (x = n) && glB sc x
    | _ => false) && clsNs sc ns ts
  | _, _ => false
/-- one class, or a tuple of some -/
def clsT (sc : Scope) (ns : List Str) : Expr → Bool
  | .Name x _ => decide (ns = [x]) && glB sc x
  | .Tuple ts _ _ => clsNs sc ns ts && decide (ns.length ≤ 1000)
  | _ => false
def okOwn : E → Bool
  | .bin .add _ _ => true
  | .bin .mul _ _ => true
  | .bi .list _ => true
  | .slc _ _ _ => true
  | _ => false
mutual
def ckE (k : Ck) : E → Expr → Bool
  | .var i, e => (match e with
    | .Name x _ => decide (k.N[i]? = some x) && visB k.sc x && dbg x
    | _ => false)
  | .int n, e => (match e with
    | .Constant (.int m) _ _ => decide (n = m)
    | _ => false)
  | .bl b, e => (match e with
    | .Constant (.bool c) _ _ => b == c
    | _ => false)
  | .non, e => (match e with
    | .Constant .none _ _ => true
    | _ => false)
  | .str x, e => (match e with
    | .Constant (.str y) _ _ => decide (x = y)
    | _ => false)
  | .cst i, e => (match e with
    | .Name x _ => decide (k.CN[i]? = some x) && glB k.sc x
    | _ => false)
  | .bin op a b, e => (match e with
    | .BinOp l o r _ => decide (o = opOf op) && ckE k a l && ckE k b r
    | _ => false)
  | .neg a, e => (match e with
    | .UnaryOp .USub o _ => ckE k a o
    | _ => false)
  | .nt a, e => (match e with
    | .UnaryOp .Not o _ => ckE k a o && tOk o
    | _ => false)
  | .cmp op a b, e => (match e with
    | .Compare l [o] [r] _ => decide (o = cpOf op) && ckE k a l && ckE k b r && noSet r
    | _ => false)
  | .cmp2 op op' a b c, e => (match e with
    | .Compare l [o, o'] [m, r] _ => decide (o = cpOf op) && decide (o' = cpOf op') && ckE k a l && ckE k b m && ckE k c r && noSet m && noSet r
    | _ => false)
  | .and a b, e => (match e with
    | .BoolOp .And [x, y] _ => ckE k a x && tOk x && ckE k b y && tOk y
    | .BoolOp .And (x :: y :: z :: r) pos => ckE k a x && tOk x && ckE k b (.BoolOp .And (y :: z :: r) pos)
    | _ => false)
  | .or a b, e => (match e with
    | .BoolOp .Or [x, y] _ => ckE k a x && tOk x && ckE k b y && tOk y
    | .BoolOp .Or (x :: y :: z :: r) pos => ckE k a x && tOk x && ckE k b (.BoolOp .Or (y :: z :: r) pos)
    | _ => false)
  | .ifx c a b, e => (match e with
    | .IfExp t x y _ => ckE k c t && tOk t && ckE k a x && ckE k b y
    | _ => false)
  | .tup es, e => (match e with
    | .Tuple xs _ _ => ckEs k es xs
    | _ => false)
  | .lst es, e => (match e with
    | .List xs _ => ckEs k es xs
    | _ => false)
  | .lstS es, e => (match e with
    | .List xs _ => ckEs k es xs
    | _ => false)
  | .dicS ks vs, e => (match e with
    | .Dict keys vals _ => ckKeys ks keys && !keys.isEmpty && decide (keys.length ≤ 15) && decide (keys.length = vals.length) && ckEs k vs vals
    | _ => false)
  | .sub a i, e => (match e with
    | .Subscript o s _ => ckE k a o && ckE k i s && noSlice s
    | _ => false)
  | .dget a i, e => (match e with
    | .Subscript o s _ => ckE k a o && ckE k i s && noSlice s
    | _ => false)
  | .slc a lo hi, e => (match e with
    | .Subscript o (.Slice l h none _) _ => ckE k a o && ckO l (isNilE lo) (fun x => ckE k lo x) && ckO h (isNilE hi) (fun x => ckE k hi x)
    | _ => false)
  | .rev a, e => (match e with
    | .Subscript o (.Slice none none (some (.UnaryOp .USub (.Constant (.int 1) _ _) _)) _) _ => ckE k a o
    | _ => false)
  | .nil, _ => false
  | .own a, e => okOwn a && ckE k a e
  | .call f es, e => (match e with
    | .Call (.Name x _) args [] _ => decide (k.FH[f]? = some (if k.hot then 1 else 0)) && decide (k.FN[f]? = some x) && glB k.sc x && ckEs k es args
    | _ => false)
  | .bi b es, e => (match e with
    | .Call (.Name x _) (a :: args) [] _ => !k.hot && decide (x = biName b) && glB k.sc x && decide (x ∈ k.BN) && ckEs k es (a :: args)
    | _ => false)
  | .isin a t, e => (match e with
    | .Call (.Name x _) [y, .Name ty _] [] _ => decide (x = ("isinstance" : Str)) && glB k.sc x && decide (x ∈ k.BN) && decide (ty = tyName t) && glB k.sc ty && decide (ty ∈ k.BN) && ckE k a y && noStar y
    | _ => false)
  | .lc elt g it c own _, e => (match e with
    | .ListComp el [⟨tg, iter, ifs, 0⟩] scope _ => !k.hot && itTg it tg && ckIt k it iter && noSet iter && blkC k.N k.sc scope (ownOf k.N own) && gIn own g && ckG (k.blk scope) g tg && ckE (k.blk scope) elt el && (match ifs with
        | [] => (match c with | .bl true => true | _ => false)
        | [t] => ckE (k.blk scope) c t && tOk t
        | _ => false)
    | _ => false)
  | .mth m o es, e => (match e with
    | .Call (.Attribute ob name apos) args [] cpos => decide (name = mtName m) && ckE k o ob && noCall ob && (apos.endLine == cpos.line) && decide (args.length < 30) && ckEs k es args
    | _ => false)
  | .lzip a b s, e => (match e with
    | .Call (.Name m _) [.Call (.Name n _) [y, z] kws _] [] _ => !k.hot && decide (m = ("list" : Str)) && glB k.sc m && decide (m ∈ k.BN) && decide (n = ("zip" : Str)) && glB k.sc n && decide (n ∈ k.BN) && ckE k a y && noStar y && ckE k b z && noStar z && strictB s kws
    | _ => false)
  | .callk j f arr es ks, e => (match e with
    | .Call (.Name x _) args kws _ => !k.hot && (match k.KF[j]? with
      | some q => decide (q.f = f) && decide (q.arr = arr) && decide (q.name = x) && decide (q.np = args.length) && decide (kws.map (·.arg) = q.ks.map some)
      | none => false) && glB k.sc x && ckEs k es args && ckEs k ks (kws.map (·.value))
    | _ => false)
  | .isx a ns, e => (match e with
    | .Call (.Name x _) [y, t] [] _ => k.hot && decide (x = ("isinstance" : Str)) && glB k.sc x && decide (x ∈ k.BN) && ckE k a y && noStar y && noStar t && clsT k.sc ns t
    | _ => false)
  | .fld a f, e => (match e with
    | .Attribute y g _ => k.hot && decide (g = f) && decide (f ∈ k.FL) && ckE k a y && noCall y
    | _ => false)
def ckEs (k : Ck) : Es → List Expr → Bool
  | .nil, [] => true
  | .cons e r, x :: xs => ckE k e x && noStar x && ckEs k r xs
  | _, _ => false
def ckIt (k : Ck) : It → Expr → Bool
  | .enu e, x => (match x with
    | .Call (.Name n _) [y] [] _ => decide (n = ("enumerate" : Str)) && glB k.sc n && decide (n ∈ k.BN) && ckE k e y && noStar y
    | _ => false)
  | .ezip a b s, x => (match x with
    | .Call (.Name n _) [.Call (.Name m _) [y, z] kws _] [] _ => decide (n = ("enumerate" : Str)) && glB k.sc n && decide (n ∈ k.BN) && decide (m = ("zip" : Str)) && glB k.sc m && decide (m ∈ k.BN) && ckE k a y && noStar y && ckE k b z && noStar z && strictB s kws
    | _ => false)
  | .chr e, x => ckE k e x
  | .val e, x => ckE k e x
  | .rng1 b, x => (match x with
    | .Call (.Name n _) [y] [] _ => decide (n = ("range" : Str)) && glB k.sc n && decide (n ∈ k.BN) && ckE k b y && noStar y
    | _ => false)
  | .rng2 a b, x => (match x with
    | .Call (.Name n _) [y, z] [] _ => decide (n = ("range" : Str)) && glB k.sc n && decide (n ∈ k.BN) && ckE k a y && noStar y && ckE k b z && noStar z
    | _ => false)
  | .rng3 a b c, x => (match x with
    | .Call (.Name n _) [y, z, t] [] _ => decide (n = ("range" : Str)) && glB k.sc n && decide (n ∈ k.BN) && ckE k a y && noStar y && ckE k b z && noStar z && ckE k c t && noStar t
    | _ => false)
  | .zip a b s, x => (match x with
    | .Call (.Name n _) [y, z] kws _ => decide (n = ("zip" : Str)) && glB k.sc n && decide (n ∈ k.BN) && ckE k a y && noStar y && ckE k b z && noStar z && strictB s kws
    | _ => false)
end
def swNames (sc : Scope) (ts : List Expr) : List Str :=
  let l := (ts.head?.map (·.pos.line)).getD 0
  ts.filterMap fun e => match e with
    | .Name x p => if sc.names.lookup x == some .local && p.line == l then some x else none
    | _ => none
/-- how names are stored from a display: some true: from the right -/
def swD (sc : Scope) (ts vs : List Expr) : Option Bool :=
  if (ts.length == 2 || ts.length == 3) && vs.length == ts.length then
    if (swNames sc ts).length != ts.length || (swNames sc ts).eraseDups.length != (swNames sc ts).length then some false
    else if vs.all (foldedForSure 8) then some false else if vs.all (constantsAlone 8) then none else some true
  else some false
def starB : Expr → Bool
  | .Starred .. => true
  | _ => false
def ckPar (k : Ck) : List Nat → List Expr → Bool
  | [], [] => true
  | i :: is, t :: ts => (match t with
    | .Name x _ => decide (k.N[i]? = some x) && locB k x
    | _ => false) && ckPar k is ts
  | _, _ => false
def allLoc (sc : Scope) (ts : List Expr) : Bool := ts.all fun t => match t with
  | .Name x _ => decide (sc.names.lookup x = some .local)
  | _ => false
def swA (k : Ck) (t v : Expr) : Bool := match t with
  | .Tuple ts _ _ => (match v with
    | .Tuple vs _ _ => decide (swD k.sc ts vs = some false) && vs.all noStar
    | _ => true)
  | _ => true
/-- a statement that may stand in a try -/
def simpS : S → Bool
  | .expr _ => true
  | .asg _ _ => true
  | .ret _ => true
  | _ => false
/-- one class or two -/
def clsT2 (sc : Scope) (ns : List Str) : Expr → Bool
  | .Name x _ => decide (ns = [x]) && glB sc x
  | .Tuple [.Name x _, .Name y _] _ _ => decide (ns = [x, y]) && glB sc x && glB sc y
  | _ => false
def ckNm (k : Ck) (i : Option Nat) (nm : Option Str) : Bool := match i, nm with
  | none, none => true
  | some i, some n => decide (k.N[i]? = some n) && decide (k.sc.names.lookup n = some .local)
  | _, _ => false
mutual
def ckS (k : Ck) : S → Stmt → Bool
  | .expr e, s => (match s with
    | .Expr x _ => ckE k e x && noComp x
    | _ => false)
  | .asg g e, s => (match s with
    | .Assign [t] v _ => ckG k g t && ckE k e v && swA k t v && decide (k.sc.kind = .function)
    | _ => false)
  | .par is es, s => (match s with
    | .Assign [.Tuple ts _ _] (.Tuple vs _ _) _ => !k.hot && ckPar k is ts && ckEs k es vs && vs.all noStar && decide is.Nodup && decide (is.length ≤ 1000) && decide (k.sc.kind = .function) && (match swD k.sc ts vs with
      | some true => allLoc k.sc ts && decide (swNames k.sc ts = ts.filterMap fun t => match t with | .Name x _ => some x | _ => none) && (decide (ts.length = 2) || decide (ts.length = 3))
      | some false => true
      | none => false)
    | _ => false)
  | .put o i e, s => (match s with
    | .Assign [.Subscript x y _] v _ => ckE k o x && ckE k i y && noSlice y && ckE k e v && noComp v
    | _ => false)
  | .dput o i e, s => (match s with
    | .Assign [.Subscript x y _] v _ => ckE k o x && ckE k i y && noSlice y && ckE k e v && noComp v
    | _ => false)
  | .ifs c a b, s => (match s with
    | .If t x y _ => ckE k c t && tOk t && ckSs k a x && ckSs k b y
    | _ => false)
  | .whl c b, s => (match s with
    | .While t x [] _ => ckE k c t && tOk t && ckSs k b x
    | _ => false)
  | .forr g it b, s => (match s with
    | .For t i x [] _ => !k.hot && itTg it t && ckG k g t && ckIt k it i && noSet i && ckSs k b x
    | _ => false)
  | .ret e, s => (match s with
    | .Return (some x) _ => ckE k e x
    | _ => false)
  | .pass, s => (match s with
    | .Pass _ => true
    | _ => false)
  | .brk, s => (match s with
    | .Break _ => true
    | _ => false)
  | .cnt, s => (match s with
    | .Continue _ => true
    | _ => false)
  | .aug i op e, s => (match s with
    | .AugAssign (.Name x _) o v _ => decide (k.N[i]? = some x) && locB k x && (op == .add || op == .sub) && decide (o = opOf op) && ckE k e v
    | _ => false)
  | .rett es, s => (match s with
    | .Return (some (.Tuple xs _ _)) _ => !k.hot && ckEs k es xs
    | _ => false)
  | .rais c fs es, s => (match s with
    | .Raise (some (.Call (.Name x _) (a :: args) [] _)) none _ => !k.hot && decide (x = c) && glB k.sc x && decide ((c, fs) ∈ k.XN) && ckEs k es (a :: args)
    | _ => false)
  | .tryx b hs, s => (match s with
    | .Try [x] (h :: hds) [] [] _ => !k.hot && simpS b && ckS k b x && ckHs k hs (h :: hds)
    | _ => false)
def ckHs (k : Ck) : Hs → List ExceptHandler → Bool
  | .nil, [] => true
  | .cons ns i b r, h :: hs => (match h with
    | .ExceptHandler (some t) nm (b0 :: su) _ => clsT2 k.sc ns t && ns.all (fun n => decide (n ∈ k.CL)) && ckNm k i nm && ckSs { k with hot := true } b (b0 :: su)
    | _ => false) && ckHs k r hs
  | _, _ => false
def ckSs (k : Ck) : Ss → List Stmt → Bool
  | .nil, [] => true
  | .cons s r, x :: xs => ckS k s x && ckSs k r xs
  | _, _ => false
end
end Ev
end
section
set_option maxRecDepth 100000
set_option maxHeartbeats 4000000
/-! Exceptions of own classes over ValueError or LookupError whose __init__ asks the base and then stores its parameters by their names. -/
namespace Ev
open PySem PySem.Spec PyProof.Rows L2
abbrev tailB (B : String) : List Value := [.type B, .type "Exception", .type "BaseException", .type "object"]
def mroB (B : String) : List Value → Bool
  | .ref _ :: r => mroB B r
  | l => l == tailB B
theorem mroB_cases {B : String} (l : List Value) (h : mroB B l = true) : (∃ c r, l = .ref c :: r ∧ mroB B r = true) ∨ l = tailB B := by
  unfold mroB at h
  split at h
  · exact .inl ⟨_, _, rfl, h⟩
  · exact .inr (eq_of_beq h)
/-- what is known of a base -/
structure BsF (B nw ini : String) : Prop where
  ex : ExcBaseFacts B nw ini (tailB B)
  st : StoreFacts B (tailB B) "object.__setattr__" "object"
theorem bsV : BsF "ValueError" "ValueError.__new__" "ValueError.__init__" := ⟨PySem.F.excBase_ValueError, PySem.F.store_ValueError⟩
theorem bsL : BsF "LookupError" "LookupError.__new__" "LookupError.__init__" := ⟨PySem.F.excBase_LookupError, PySem.F.store_LookupError⟩
structure MroF (B : String) (l : List Value) : Prop where
  ne : l.isEmpty = false
  go : ∀ self : Value, refuseLoop self "__setattr__" l = pure ()
  has : ∀ Y : String, l.contains (.type Y) = (tailB B).contains (.type Y)
theorem mroF {B nw ini : String} (F : BsF B nw ini) (l : List Value) (h : mroB B l = true) : MroF B l := by
  induction l with
  | nil => exact absurd h (by simp [mroB])
  | cons a r ih =>
    rcases mroB_cases (a :: r) h with ⟨c, r2, q, h2⟩ | q
    · obtain ⟨rfl, rfl⟩ := List.cons.inj q
      have I := ih h2
      exact ⟨rfl, fun self => by rw [refuseLoop_ref]; exact I.go self, fun Y => by rw [List.contains_cons, I.has]; rfl⟩
    · rw [q]
      exact ⟨rfl, F.st.passes, fun Y => rfl⟩
section
open Builtin Builtin.ObjectAttr PySem.W
variable {prog : Program} {w : World} {A : Around} {R : Result → Shared → Prop} {hp : Heap} {gn : Array GenState} {dr : Drawn} {tt : Nat} {os : OsState} {B : String}
theorem store_more {M : Model} {E : Value → Shared → Prop} {D : Addr} {nm : Str} {tk : Tok} {v : Value} {m0 : Str → Option Value} {ks : List Str} {P : Fin → Shared → Prop} (n1 : hp.Ns1 D m0) (wi : Within m0 ks) (few : ks.length ≤ 1000)
    (fin : ∀ h2 tk2, h2.Ns1 D (fun y => if y = nm then some v else m0 y) → Heap.SameBut D hp h2 → P (.done (.ret .none)) ⟨h2, gn, dr, tk2, os⟩) : wpAny M A (storeInDict D (.str nm tk) nm v) P E ⟨hp, gn, dr, tt, os⟩ := by
  unfold storeInDict newKeyGuard
  refine wpAny_bind (wpAny_pure (wpAny_bind (wpAny_nsSet1 n1 fun h2 n2 same => ?_)))
  obtain ⟨o1, e1, p1, g1, g2, g3⟩ := n2.count (Within.cons nm v wi)
  refine wpAny_bind (wpAny_lookBehind g1 (by rw [g2]; exact pastItsLine_dict (Nat.le_trans g3 (by rw [List.length_cons, sizeLine_eq]; omega))) ?_)
  wp_walk
  exact fin h2 _ n2 same
/-- a field more, of an exception that has its dict -/
theorem osa_more {K : W.Frag} {nm : Str} {tk : Tok} {v : Value} {x C D : Addr} {fv : Array Value} {cd : ClassData} {m0 : Str → Option Value} {ks : List Str}
    (X : K.In hp) (gx : hp.get? x = some { cls := .ref C, dict := some D, data := .fields fv }) (n1 : hp.Ns1 D m0) (wi : Within m0 ks) (few : ks.length ≤ 1000) (hcd : W.clsIn K C = some cd) (M : MroF B cd.mro) (ob : (tailB B).contains (.type "object") = true) (hh : cd.hasDict = true) (ha : W.findIn K (.ref C) nm = some none)
    (fin : ∀ h2 tk2, (∀ b o, b ≠ D → hp.get? b = some o → h2.get? b = some o) → h2.Ns1 D (fun y => if y = nm then some v else m0 y) → R (.ok (.ret .none)) ⟨h2, gn, dr, tk2, os⟩) :
    codeAny (model prog w) A (.call (.builtin "object.__setattr__") ⟨[.ref x, .str nm tk, v], []⟩) R ⟨hp, gn, dr, tt, os⟩ := by
  obtain ⟨o1, e1, p1, g1, g2, g3⟩ := n1.count wi
  have I : W.InstAt hp x { cls := .ref C, dict := some D, data := .fields fv } C (some o1) := ⟨gx, rfl, rfl, g1⟩
  have sf := PySem.F.store_object
  have isO : W.Looks (model prog w) hp (isInstance (.ref x) (.type "object")) true := I.type.andThen (W.looks_mroIn X (by unfold W.mroIn; rw [hcd, Option.bind_some, if_neg (by rw [M.ne]; decide), M.has, ob]))
  have lm : W.Looks (model prog w) hp (mroOf (.ref C)) cd.mro := (W.looks_clsIn X hcd).andThen .now
  have l0 : W.Looks (model prog w) hp (storeTaker? none) none := .now
  have lc : W.Looks (model prog w) hp (classData C) cd := W.looks_clsIn X hcd
  refine codeAny_call_builtin sf.slot.plain sf.entry (@W.check_slot (model prog w) _ _ ⟨hp, gn, dr, tt, os⟩ "object.__setattr__" "object" "__setattr__" (.ref x) [.str nm tk, v] [] _ sf.kind sf.split isO (sf.args (.ref x) (.str nm tk) v) ?_)
  rw [W.osa_eq, refuse_eq]
  refine wpAny_bind (wpAny_bind (I.type.at (wpAny_bind (lm.at ?_))))
  rw [M.go]
  refine wpAny_pure (wpAny_bind (I.type.at (wpAny_bind ((W.looks_findIn X ha).at (wpAny_bind (l0.at ?_))))))
  show wpAny _ _ (storeInOwnDict (.ref x) (.ref C) (.str nm tk) nm v false) _ _ _
  obtain ⟨c1, c2, c3, c4, c5, c6, c7, c8, c9, c10, c11⟩ := cd
  dsimp only at hh
  subst hh
  unfold storeInOwnDict ownDictForStores
  repeat (first | with_reducible refine store_more n1 wi few ?_ | with_reducible refine wpAny_loadPart_at gx ?_ | with_reducible refine lc.at ?_ | wp_step)
  intro h2 tk2 n2 same
  exact fin h2 tk2 (fun b o ne e => (same.2 b ne).trans e) n2
/-- the first field: its dict is laid -/
theorem osa_first {K : W.Frag} {nm : Str} {tk : Tok} {v : Value} {x C : Addr} {fv : Array Value} {cd : ClassData}
    (X : K.In hp) (gx : hp.get? x = some { cls := .ref C, data := .fields fv }) (hcd : W.clsIn K C = some cd) (M : MroF B cd.mro) (ob : (tailB B).contains (.type "object") = true) (hh : cd.hasDict = true) (ha : W.findIn K (.ref C) nm = some none)
    (fin : ∀ h2 tk2 D, (∀ b o, b ≠ x → hp.get? b = some o → h2.get? b = some o) → hp.objs.size ≤ D → D ≠ x → h2.get? x = some { cls := .ref C, dict := some D, data := .fields fv } →
      h2.Ns1 D (fun y => if y = nm then some v else none) → R (.ok (.ret .none)) ⟨h2, gn, dr, tk2, os⟩) :
    codeAny (model prog w) A (.call (.builtin "object.__setattr__") ⟨[.ref x, .str nm tk, v], []⟩) R ⟨hp, gn, dr, tt, os⟩ := by
  have I : W.InstAt hp x { cls := .ref C, data := .fields fv } C none := ⟨gx, rfl, rfl, trivial⟩
  have sf := PySem.F.store_object
  have old : x ≠ hp.objs.size := Nat.ne_of_lt (Heap.lt_size gx)
  have isO : W.Looks (model prog w) hp (isInstance (.ref x) (.type "object")) true := I.type.andThen (W.looks_mroIn X (by unfold W.mroIn; rw [hcd, Option.bind_some, if_neg (by rw [M.ne]; decide), M.has, ob]))
  have lm : W.Looks (model prog w) hp (mroOf (.ref C)) cd.mro := (W.looks_clsIn X hcd).andThen .now
  have l0 : W.Looks (model prog w) hp (storeTaker? none) none := .now
  have lc : W.Looks (model prog w) hp (classData C) cd := W.looks_clsIn X hcd
  refine codeAny_call_builtin sf.slot.plain sf.entry (@W.check_slot (model prog w) _ _ ⟨hp, gn, dr, tt, os⟩ "object.__setattr__" "object" "__setattr__" (.ref x) [.str nm tk, v] [] _ sf.kind sf.split isO (sf.args (.ref x) (.str nm tk) v) ?_)
  rw [W.osa_eq, refuse_eq]
  refine wpAny_bind (wpAny_bind (I.type.at (wpAny_bind (lm.at ?_))))
  rw [M.go]
  refine wpAny_pure (wpAny_bind (I.type.at (wpAny_bind ((W.looks_findIn X ha).at (wpAny_bind (l0.at ?_))))))
  show wpAny _ _ (storeInOwnDict (.ref x) (.ref C) (.str nm tk) nm v false) _ _ _
  obtain ⟨c1, c2, c3, c4, c5, c6, c7, c8, c9, c10, c11⟩ := cd
  dsimp only at hh
  subst hh
  unfold storeInOwnDict ownDictForStores
  repeat (first | with_reducible refine HandSPX.store_in_new ?_ ?_ | with_reducible refine wpAny_loadPart_at gx ?_ | with_reducible refine lc.at ?_ | wp_step)
  · exact ⟨_, #[], _, (Heap.get?_update_ne _ _ _ _ old.symm).trans (Heap.get?_push_at rfl rfl), rfl, fun e he => absurd he (by simp), fun _ => rfl⟩
  · intro h2 tk2 n2 same
    have g1 : (hp.push { cls := .type "dict", data := .dict #[] }).get? x = some { cls := .ref C, data := .fields fv } := Heap.get?_push_of_some _ gx
    refine fin h2 tk2 hp.objs.size (fun b o ne e => ?_) (Nat.le_refl _) old.symm ?_ n2
    · exact (same.2 b (Nat.ne_of_lt (Heap.lt_size e))).trans ((Heap.get?_update_ne _ _ _ _ ne).trans (Heap.get?_push_of_some _ e))
    · exact (same.2 x old).trans (Heap.get?_update_self _ g1 rfl)
end
/-- what the head tells of such a class -/
structure OxC (K : PySem.W.Frag) (C : Addr) (B nw ini : String) : Prop where
  bs : BsF B nw ini
  ob : (tailB B).contains (.type "object") = true
  cls : ∃ nm q N bs bm sn sub ab col dd k0 k1 k2 k3 k5, K.lookup C = some (excClassObj nm q C N bs bm true sn sub ab col dd k0 k1 k2 k3 k5 nw) ∧ mroB B bm = true
  sa : PySem.W.findIn K (.ref C) "__setattr__" = some (some (.builtin "object.__setattr__"))
  exC : PySem.W.subIn K (.ref C) (.type "BaseException") = some true
  tyC : PySem.W.typeIn K (.ref C) = some (.type "type")
  kC : PySem.W.keepIn K (.ref C) = true
section
variable {X : Cx} {pins : List (Addr × Obj)} {σ : L2.St} {H : Hp} {s : Shared} {a C D : Addr} {f : Str} {y : V} {u : Value} {fs : List (Str × V)} {P : Unit → Shared → Prop} {E : Value → Shared → Prop} {A : Around} {B nw ini : String}
/-- self.f = y for the first time -/
theorem put_first (T : OxC X.K C B nw ini) (I : Inv X pins σ H s) (ea : H a = some (exo a C none)) (no : PySem.W.findIn X.K (.ref C) f = some none) (ry : RelV y u)
    (fin : ∀ D s2, H D = none → D ≠ a → Inv X pins σ (upd (upd H D (exd D [(f, y)])) a (exo a C (some D))) s2 → P () s2) : wpAny (model X.prog X.w) A (setAttr (.ref a) f u) P E s := by
  obtain ⟨nm, q, N, bs, bm, sn, sub, ab, col, dd, k0, k1, k2, k3, k5, hC, hbm⟩ := T.cls
  have cin : PySem.W.clsIn X.K C = some { name := nm, bases := bs, mro := .ref C :: bm, ns := N, qualname := q, hasDict := true, slotNames := sn, subclasses := sub, abstract := ab, collection := col, hasDel := false } := by
    unfold PySem.W.clsIn
    rw [hC]
  obtain ⟨t1, ho⟩ := exo_at I.hok ea
  obtain ⟨hp, gn, dr, tt, os⟩ := s
  refine PySem.W.set_plain I.kIn (ox := { cls := .ref C, dict := none, data := .fields #[.ref t1, .none, .none, .none, .bool false, .none] }) (od := none) ⟨ho, rfl, rfl, trivial⟩ T.sa ?_
  refine osa_first I.kIn ho cin (mroF T.bs (.ref C :: bm) hbm) T.ob rfl no (fun h2 tk2 D keep up ne gx n2 => ?_)
  have hD : H D = none := I.hok.fresh up
  have ltD : ∀ {b : Addr} {o : Obj}, hp.get? b = some o → b ≠ D := fun {b o} e => Nat.ne_of_lt (Nat.lt_of_lt_of_le (Heap.lt_size e) up)
  have noA : ∀ {b : Addr}, H b = none → b ≠ a := fun {b} n z => by
    rw [z, ea] at n
    cases n
  have U : Un X.fs [] H (upd (upd H D (exd D [(f, y)])) a (exo a C (some D))) hp h2 := {
    keep := fun b o e n _ _ => keep b o (noA n) e
    slot := fun b o e n _ _ => ⟨o.slots, keep b o (noA n) e⟩
    free := fun b o e n _ => by rw [upd_ne (noA n), upd_ne (ltD e)]; exact n
    there := fun b o e _ => by
      by_cases z : b = a
      · exact ⟨_, by rw [z]; exact gx⟩
      · exact ⟨o, keep b o z e⟩
    tups := fun b xs e => by rw [upd_ne (at_ne ea e exo_tup), upd_ne (ne_of_none e hD)]; exact e
    frzs := fun b o v e => by rw [upd_ne (at_ne ea e exo_frz), upd_ne (ne_of_none e hD)]; exact e
    tbls := fun b ps e => ⟨#[], by rw [upd_ne (at_ne ea e exo_tbl), upd_ne (ne_of_none e hD), e]; simp⟩ }
  refine fin D _ hD ne (I.un (t' := tk2) U fun b o e => ?_)
  by_cases z : b = a
  · subst z
    rw [upd_same] at e
    cases e
    exact exo_ok gx
  · rw [upd_ne z] at e
    by_cases z2 : b = D
    · subst z2
      rw [upd_same] at e
      cases e
      exact exd_ok n2 (relO_put (fs := []) ry fun g => True.intro)
    · rw [upd_ne z2] at e
      refine (I.hok b o e).stay (fun c v hc q => keep c v ?_ q) (fun c hc => ?_) (fun c xs hc => ?_)
      · rcases hc with hc | hc
        · rw [hc]; exact z
        · exact at_ne ea hc exo_own
      · rw [upd_ne (at_ne ea hc exo_own), upd_ne (ne_of_none hc hD)]; exact hc
      · rw [upd_ne (at_ne ea hc exo_tup), upd_ne (ne_of_none hc hD)]; exact hc
/-- .. and again -/
theorem put_more (T : OxC X.K C B nw ini) (I : Inv X pins σ H s) (ea : H a = some (exo a C (some D))) (ed : H D = some (exd D fs)) (few : fs.length ≤ 900) (no : PySem.W.findIn X.K (.ref C) f = some none) (ry : RelV y u)
    (fin : ∀ s2, Inv X pins σ (upd H D (exd D ((f, y) :: fs))) s2 → P () s2) : wpAny (model X.prog X.w) A (setAttr (.ref a) f u) P E s := by
  obtain ⟨nm, q, N, bs, bm, sn, sub, ab, col, dd, k0, k1, k2, k3, k5, hC, hbm⟩ := T.cls
  have cin : PySem.W.clsIn X.K C = some { name := nm, bases := bs, mro := .ref C :: bm, ns := N, qualname := q, hasDict := true, slotNames := sn, subclasses := sub, abstract := ab, collection := col, hasDel := false } := by
    unfold PySem.W.clsIn
    rw [hC]
  obtain ⟨t1, ho⟩ := exo_at I.hok ea
  obtain ⟨m0, n1, rel⟩ := exd_at I.hok ed
  have wi := within_of rel
  obtain ⟨hp, gn, dr, tt, os⟩ := s
  obtain ⟨o1, _, _, g1, _, _⟩ := n1.count wi
  refine PySem.W.set_plain I.kIn (ox := { cls := .ref C, dict := some D, data := .fields #[.ref t1, .none, .none, .none, .bool false, .none] }) (od := some o1) ⟨ho, rfl, rfl, g1⟩ T.sa ?_
  refine osa_more I.kIn ho n1 wi (by rw [List.length_map]; omega) cin (mroF T.bs (.ref C :: bm) hbm) T.ob rfl no (fun h2 tk2 keep n2 => ?_)
  have there : ∃ o, h2.get? D = some o := by
    obtain ⟨o, _, _, e, _⟩ := n2
    exact ⟨o, e⟩
  exact fin _ (I.write (t' := tk2) (x := D) (e := D) (o := exd D ((f, y) :: fs)) (by rw [ed]; exact True.intro) (.inl rfl) keep there (exd_ok n2 (relO_put ry rel)))
/-- the base's __init__ -/
theorem base_ini {P : Value → Shared → Prop} (T : OxC X.K C B nw ini) (I : Inv X pins σ H s) (ea : H a = some (exo a C none)) (fin : ∀ s2, Inv X pins σ H s2 → P .none s2) :
    wpAny (model X.prog X.w) A (call (.builtin ini) [.ref a]) P E s := by
  obtain ⟨nm, q, N, bs, bm, sn, sub, ab, col, dd, k0, k1, k2, k3, k5, hC, hbm⟩ := T.cls
  obtain ⟨t1, ho⟩ := exo_at I.hok ea
  obtain ⟨hp, gn, dr, tt, os⟩ := s
  refine wpAny_call (PySem.HandSPX.init_base (rest := []) T.bs.ex (mroF T.bs bm hbm).has (I.kIn _ _ hC) ho (by simp) fun h2 t2 keep gx => ?_)
  have J := I.write (t' := tt) (x := a) (e := a) (o := exo a C none) (by rw [ea]; exact True.intro) (.inl rfl) keep ⟨_, gx⟩ (exo_ok gx)
  have same : upd H a (exo a C none) = H := by
    funext b
    by_cases z : b = a
    · rw [z, upd_same, ea]
    · rw [upd_ne z]
  rw [same] at J
  exact fin _ J
/-! ### the statements of such an __init__ -/
section
variable {o e : Expr} {to te : TE} {g : Str} {p p1 p2 p3 pos : Pos} {bn : Str} {CS : Addr}
/-- Base.__init__(e) -/
def tBini (K : PySem.W.Frag) (B nw ini : String) (te : TE) : TE := fun σ H Q => te σ H fun x H1 => ∃ a C : Addr, x = .ref a ∧ OxC K C B nw ini ∧ H1 a = some (exo a C none) ∧ Q .non H1
theorem pe_bini {x : Str} (hg : Gl X bn) (hm : X.mg bn = some (.ref CS)) (hdb : (bn == ("__debug__" : Str)) = false) (h1 : PySem.W.specialIn X.K (.ref CS) "__getattribute__" = some (some (.builtin "type.__getattribute__"))) (h2 : PySem.W.readsIn X.K CS (.type "type") = true)
    (h3 : PySem.W.findCls X.K (.ref CS) (.type "type") "__init__" = some (.val (.builtin ini))) (hh : PySem.W.handedIn (.builtin ini) = true) (he : PE X (.Name x p3) te) (ln : (p2.endLine == pos.line) = true) : PE X (.Call (.Attribute (.Name bn p1) "__init__" p2) [.Name x p3] [] pos) (tBini X.K B nw ini te) := by
  refine ⟨fun pins s σ H Q I h => ?_⟩
  have at0 : attributeBase (.Name bn p1) "__init__" X.env (eval (.Name bn p1) X.env) = eval (.Name bn p1) X.env := rfl
  have at1 : methodCallPos true (.Name bn p1) X.env p2 pos = pure pos := by
    unfold methodCallPos
    simp [ln]
  have at2 : methodCallForm ([Expr.Name x p3].length + ([] : List Keyword).length) (backTo pos (starEach [.Name x p3] X.env)) (backToKw pos (keywordEach [] X.env)) = true := rfl
  rw [arm_eval_Call, at0]
  refine wpAny_bind (ld_glob I hg hm ?_ hdb)
  refine wpAny_bind (wpAny_standAt ?_)
  unfold methodCall
  rw [at2]
  refine wpAny_bind (wpAny_holding (PySem.W.method_cls I.kIn h1 (PySem.W.cls_value I.kIn h2 h3 hh ?_)))
  refine wpAny_bind (wpAny_of_eq at1 ?_)
  show wpAny _ _ (callWith pos (Value.builtin ini) [] (backTo pos (starEach [.Name x p3] X.env)) []) _ _ _
  have ha : PA X [.Name x p3] (tCons te tNil) := pa_cons he pa_nil
  refine PyProof.Rows.callWith_method1 (thn (ha.run pos pins _ σ H (fun vs H1 => match vs with
    | [x] => ∃ a C : Addr, x = .ref a ∧ OxC X.K C B nw ini ∧ H1 a = some (exo a C none) ∧ Q .non H1
    | _ => False) (I.tok _) h) fun us s1 ⟨vs, H1, I1, r1, q⟩ => ?_) rfl rfl
  dsimp only at q
  split at q
  · obtain ⟨a, C, rfl, T, ea, q⟩ := q
    cases r1 with
    | cons ra rn =>
      cases rn
      cases ra
      exact base_ini T I1 ea fun s2 J => ⟨.non, H1, J, rfl, q⟩
  · exact q.elim
/-- e.g = e2 -/
def tPut (K : PySem.W.Frag) (B nw ini : String) (g : Str) (to te : TE) : TS := fun D σ H => te σ H fun y H1 => to σ H1 fun x H2 => ∃ a C : Addr, x = .ref a ∧ OxC K C B nw ini ∧ PySem.W.findIn K (.ref C) g = some none ∧
  ((H2 a = some (exo a C none) ∧ ∀ D2, H2 D2 = none → D2 ≠ a → D.nx σ (upd (upd H2 D2 (exd D2 [(g, y)])) a (exo a C (some D2)))) ∨
    ∃ (D2 : Addr) (gs : List (Str × V)), H2 a = some (exo a C (some D2)) ∧ H2 D2 = some (exd D2 gs) ∧ gs.length ≤ 900 ∧ D.nx σ (upd H2 D2 (exd D2 ((g, y) :: gs))))
theorem ps_put (ho : PE X o to) (he : PE X e te) (hs : swapsWith e (some (.Attribute o g p)) pos.line X.env = pure false) : PS X (.Assign [.Attribute o g p] e pos) (tPut X.K B nw ini g to te) := by
  refine ⟨fun pins s σ H D I h => ?_⟩
  refine plainObj_wpAny_Assign_Attribute (thn (he.run pins s σ H _ I h) fun v s1 ⟨y, H1, I1, r1, q1⟩ => thn (ho.run pins s1 σ H1 _ I1 q1) fun u s2 ⟨x, H2, I2, r2, a, C, ex, T, no, q⟩ => ?_) hs
  subst ex
  cases r2
  rcases q with ⟨ea, q⟩ | ⟨D2, gs, ea, ed, few, q⟩
  · exact put_first T I2 ea no r1 fun D2 s3 n ne J => ⟨σ, _, J, q D2 n ne⟩
  · exact put_more T I2 ea ed few no r1 fun s3 J => ⟨σ, _, J, q⟩
end
end
/-! ### the whole __init__ -/
def putsOk (N : List Str) (sc : Scope) : Nat → List Str → List Stmt → Bool
  | _, [], [] => true
  | i, f :: fs, st :: r => (match st with
    | .Assign [.Attribute (.Name x _) g _] (.Name y _) _ => decide (N[0]? = some x) && visB sc x && dbg x && decide (g = f) && decide (N[i]? = some y) && visB sc y && dbg y && putsOk N sc (i + 1) fs r
    | _ => false)
  | _, _, _ => false
def iniOk (N : List Str) (sc : Scope) (bn : Str) (fs : List Str) (body : List Stmt) : Bool := match body with
  | .Expr (.Call (.Attribute (.Name b _) m p2) [.Name x _] [] pos) _ :: r => decide (b = bn) && glB sc b && decide (m = ("__init__" : Str)) && decide (N[0]? = some x) && visB sc x && dbg x && (p2.endLine == pos.line) && putsOk N sc 1 fs r
  | _ => false
theorem visV {sc : Scope} {x : Str} (h : visB sc x = true) : Vis sc x := by
  unfold Vis
  unfold visB at h
  split at h
  · exact .inl (by assumption)
  · exact .inr (.inl (by assumption))
  · exact .inr (.inr (by assumption))
  · cases h
theorem dbgV {x : Str} (h : dbg x = true) : (x == ("__debug__" : Str)) = false ∧ (x == ("__classdict__" : Str)) = false := by
  unfold dbg at h
  simp only [Bool.and_eq_true, Bool.not_eq_true'] at h
  exact ⟨h.1.1, h.1.2⟩
section
variable {X : Cx} {B nw ini : String} {C : Addr}
theorem puts_ok (T : OxC X.K C B nw ini) : ∀ (fs : List Str) (i : Nat) (sts : List Stmt), putsOk X.N X.env.scope i fs sts = true → (∀ f ∈ fs, PySem.W.findIn X.K (.ref C) f = some none) → ∃ t : TS, PSs X sts t ∧
    ∀ (D : Ends) (σ : L2.St) (H : Hp) (a D2 : Addr) (gs : List (Str × V)) (ws : List V), σ[0]? = some (some (.ref a)) → ws.length = fs.length → (∀ j v, ws[j]? = some v → σ[i + j]? = some (some v)) → gs.length + fs.length ≤ 900 →
      H a = some (exo a C (some D2)) → D2 ≠ a → H D2 = some (exd D2 gs) → (∀ H', H' D2 = some (exd D2 ((fs.zip ws).reverse ++ gs)) → (∀ b, b ≠ D2 → H' b = H b) → D.nx σ H') → t D σ H
  | [], i, [], _, _ => ⟨_, pss_nil, fun D σ H a D2 gs ws _ hl _ _ _ _ ed q => q H (by
      cases ws with
      | nil => exact ed
      | cons _ _ => simp at hl) fun b _ => rfl⟩
  | [], i, _ :: _, h, _ => by simp [putsOk] at h
  | _ :: _, i, [], h, _ => by simp [putsOk] at h
  | f :: fs, i, st :: r, h, hno => by
    simp only [putsOk] at h
    split at h
    · rename_i x px g pg y py pos
      simp only [Bool.and_eq_true, decide_eq_true_eq] at h
      obtain ⟨⟨⟨⟨⟨⟨⟨n0, v0⟩, d0⟩, rfl⟩, n1⟩, v1⟩, d1⟩, hr⟩ := h
      obtain ⟨t, ht, hq⟩ := puts_ok T fs (i + 1) r hr fun f hf => hno f (List.mem_cons_of_mem _ hf)
      refine ⟨_, pss_cons (ps_put (B := B) (nw := nw) (ini := ini) (pe_var (i := 0) n0 (visV v0) (dbgV d0).1 (dbgV d0).2) (pe_var (i := i) n1 (visV v1) (dbgV d1).1 (dbgV d1).2) rfl) ht, ?_⟩
      intro D σ H a D2 gs ws s0 hl hw few ea ne ed q
      cases ws with
      | nil => simp at hl
      | cons v ws =>
        refine ⟨v, hw 0 v rfl, .ref a, s0, a, C, rfl, T, hno g List.mem_cons_self, .inr ⟨D2, gs, ea, ed, by simp at few; omega, ?_⟩⟩
        refine hq D σ _ a D2 ((g, v) :: gs) ws s0 (by simpa using hl) (fun j u e => ?_) (by simp at few ⊢; omega) (by rw [upd_ne (Ne.symm ne)]; exact ea) ne upd_same fun H' e1 e2 => q H' ?_ fun b hb => ?_
        · rw [show i + 1 + j = i + (j + 1) by omega]
          exact hw (j + 1) u (by simpa using e)
        · rw [e1]
          simp
        · rw [e2 b hb, upd_ne hb]
    · cases h
/-- what an __init__ promises -/
def spI (C : Addr) (fs : List Str) : Sp := fun vs H Q _ => ∃ a ws, vs = .ref a :: ws ∧ ws.length = fs.length ∧ H a = some (exo a C none) ∧ ∀ (D : Addr) (H' : Hp), H D = none → D ≠ a → H' a = some (exo a C (some D)) → H' D = some (exd D (fs.zip ws).reverse) → (∀ b, b ≠ a → b ≠ D → H' b = H b) → Q .non H'
theorem ini_ok {bn : Str} {CS : Addr} {f : Str} {fs : List Str} {body : List Stmt} (T : OxC X.K C B nw ini) (few : fs.length ≤ 800) (h : iniOk X.N X.env.scope bn (f :: fs) body = true) (hm : X.mg bn = some (.ref CS)) (h1 : PySem.W.specialIn X.K (.ref CS) "__getattribute__" = some (some (.builtin "type.__getattribute__"))) (h2 : PySem.W.readsIn X.K CS (.type "type") = true)
    (h3 : PySem.W.findCls X.K (.ref CS) (.type "type") "__init__" = some (.val (.builtin ini))) (hh : PySem.W.handedIn (.builtin ini) = true) (hno : ∀ g ∈ f :: fs, PySem.W.findIn X.K (.ref C) g = some none) : ∃ t : TS, PSs X body t ∧ ∀ (vs : List V) (H : Hp) (Q : VK) (E : XK), spI C (f :: fs) vs H Q E → t { nx := fun _ H' => Q .non H', rt := Q } (L2.start X.N vs) H := by
  unfold iniOk at h
  split at h
  · rename_i b p1 m p2 x px pos pe r
    simp only [Bool.and_eq_true, decide_eq_true_eq] at h
    obtain ⟨⟨⟨⟨⟨⟨⟨rfl, g0⟩, rfl⟩, n0⟩, v0⟩, d0⟩, ln⟩, hr⟩ := h
    have gl : Gl X b ∧ (b == ("__debug__" : Str)) = false := by
      unfold glB at g0
      rw [Bool.and_eq_true] at g0
      refine ⟨?_, (dbgV g0.2).1⟩
      have := g0.1
      split at this
      · assumption
      · cases this
    cases r with
    | nil => simp [putsOk] at hr
    | cons st r =>
      simp only [putsOk] at hr
      split at hr
      · rename_i x2 px2 g pg y py pos2
        simp only [Bool.and_eq_true, decide_eq_true_eq] at hr
        obtain ⟨⟨⟨⟨⟨⟨⟨n2, v2⟩, d2⟩, rfl⟩, n1⟩, v1⟩, d1⟩, hr⟩ := hr
        obtain ⟨t, ht, hq⟩ := puts_ok T fs 2 r hr fun f hf => hno f (List.mem_cons_of_mem _ hf)
        refine ⟨_, pss_cons (ps_expr (pe_bini (B := B) (nw := nw) gl.1 hm gl.2 h1 h2 h3 hh (pe_var (i := 0) n0 (visV v0) (dbgV d0).1 (dbgV d0).2) ln) rfl)
          (pss_cons (ps_put (B := B) (nw := nw) (ini := ini) (pe_var (i := 0) n2 (visV v2) (dbgV d2).1 (dbgV d2).2) (pe_var (i := 1) n1 (visV v1) (dbgV d1).1 (dbgV d1).2) rfl) ht), ?_⟩
        rintro vs H Q E ⟨a, ws, rfl, hl, ea, q⟩
        cases ws with
        | nil => simp at hl
        | cons v ws =>
          have st : ∀ j u, (V.ref a :: v :: ws)[j]? = some u → (L2.start X.N (V.ref a :: v :: ws))[j]? = some (some u) := fun j u e => by
            unfold L2.start
            rw [List.getElem?_append_left (by rw [List.length_map]; exact (List.getElem?_eq_some_iff.mp e).1), List.getElem?_map, e]
            rfl
          refine ⟨.ref a, st 0 _ rfl, a, C, rfl, T, ea, ?_⟩
          refine ⟨v, st 1 _ rfl, .ref a, st 0 _ rfl, a, C, rfl, T, hno g List.mem_cons_self, .inl ⟨ea, fun D hD ne => ?_⟩⟩
          have eD : (upd (upd H D (exd D [(g, v)])) a (exo a C (some D))) D = some (exd D [(g, v)]) := by rw [upd_ne ne, upd_same]
          refine hq _ _ _ a D [(g, v)] ws (st 0 _ rfl) (by simpa using hl) (fun j u e => st (2 + j) u (by rw [show 2 + j = j + 1 + 1 by omega]; simpa using e)) (by simp; omega) upd_same ne eD fun H' e1 e2 => ?_
          refine q D H' hD ne (by rw [e2 a (Ne.symm ne), upd_same]) (by rw [e1]; simp) fun b h1 h2 => by rw [e2 b h2, upd_ne h1, upd_ne h2]
      · cases hr
  · cases h
end
end Ev
end
section
set_option maxRecDepth 100000
set_option maxHeartbeats 4000000
namespace Ev
open PySem PySem.Spec PyProof.Rows L2
section
variable {X : Cx} {B nw ini : String} {C : Addr} {e : Expr} {es : List Expr} {ta : TA} {p pos : Pos}
/-- C(e, ..) made -/
def tMk (C : Addr) (fs : List Str) (ta : TA) : L2.St → Hp → XK → Prop := fun σ H Q => ta σ H fun vs H1 => vs.length = fs.length ∧ ∀ D, H1 D = none → Q (.ref C) (some D) (upd H1 D (.xd (fs.zip vs).reverse))
theorem pmk_x {x : Str} {fI : Addr} {k : Nat} {fd : FuncData} {ps fs : List Str} (T : OxC X.K C B nw ini) (iC : PySem.W.findIn X.K (.ref C) "__init__" = some (some (.ref fI))) (tI : PySem.W.typeIn X.K (.ref fI) = some (.type "function"))
    (F1 : FnOk X.prog X.w X.K X.mg X.base CX0 k fI fd ps (spI C fs)) (few : fs.length ≤ 1000) (hr : Room (k + 1) X.A) (hb : Binds X.K fd ps []) (hg : Gl X x) (hm : X.mg x = some (.ref C)) (hdb : (x == ("__debug__" : Str)) = false) (ha : PA X (e :: es) ta)
    (he : starEach (e :: es) X.env = (false, eval e X.env) :: starEach es X.env) (hpl : (backTo pos (starEach es X.env)).any (·.1) = false) : L2N.PMk X (.Call (.Name x p) (e :: es) [] pos) (tMk C fs ta) := by
  intro pins s σ H Q I h
  obtain ⟨nm, q, N, bs, bm, sn, sub, ab, col, dd, k0, k1, k2, k3, k5, hC, hbm⟩ := T.cls
  refine wpAny_Call_Name_kw (ld_glob I hg hm ?_ hdb)
  refine PySem.W.callWith_K (h₀ := X.base) I.ok.mod.kin T.kC (thn (ha.run pos pins s σ H _ I h) fun us s1 ⟨vs, H1, I1, r1, hz, q1⟩ => ⟨I1.kIn, ?_⟩) he hpl
  show wpAny _ _ (call (.ref C) us) _ _ _
  obtain ⟨hp, gn, dr, tk, os⟩ := s1
  have up : hp.objs.size ≤ hp.objs.size + 1 := Nat.le_succ _
  have hn : H1 (hp.objs.size + 1) = none := I1.hok.fresh up
  have kk : ∀ b o, hp.get? b = some o → ((hp.push (PySem.W.kdv_tup us)).push (PySem.HandSPX.excO C hp.objs.size)).get? b = some o := fun b o e => Heap.get?_push_of_some _ (Heap.get?_push_of_some _ e)
  have gx : ((hp.push (PySem.W.kdv_tup us)).push (PySem.HandSPX.excO C hp.objs.size)).get? (hp.objs.size + 1) = some (PySem.HandSPX.excO C hp.objs.size) := by heap_get
  have I2 : Inv X pins σ (upd H1 (hp.objs.size + 1) (exo (hp.objs.size + 1) C none)) ⟨(hp.push (PySem.W.kdv_tup us)).push (PySem.HandSPX.excO C hp.objs.size), gn, dr, tk, os⟩ :=
    I1.laid (t' := tk) (a := hp.objs.size + 1) (o := exo (hp.objs.size + 1) C none) (h' := (hp.push (PySem.W.kdv_tup us)).push (PySem.HandSPX.excO C hp.objs.size)) kk up (exo_ok gx)
  have sp : spI C fs (V.ref (hp.objs.size + 1) :: vs) (upd H1 (hp.objs.size + 1) (exo (hp.objs.size + 1) C none)) (fun v H2 => v = .non ∧ ∃ D, H2 (hp.objs.size + 1) = some (exo (hp.objs.size + 1) C (some D)) ∧ H2 D = some (exd D (fs.zip vs).reverse) ∧ H1 D = none ∧ Q (.ref C) (some D) (upd (del H2 (hp.objs.size + 1)) D (.xd (fs.zip vs).reverse))) (fun _ _ _ => False) := by
    refine ⟨_, vs, rfl, hz, upd_same, fun D H' e1 ne e2 e3 e4 => ⟨rfl, D, e2, e3, by rw [upd_ne ne] at e1; exact e1, ?_⟩⟩
    have eD : H1 D = none := by rw [upd_ne ne] at e1; exact e1
    have same : upd (del H' (hp.objs.size + 1)) D (.xd (fs.zip vs).reverse) = upd H1 D (.xd (fs.zip vs).reverse) := by
      funext b
      by_cases z : b = D
      · rw [z, upd_same, upd_same]
      · rw [upd_ne z, upd_ne z]
        by_cases z2 : b = hp.objs.size + 1
        · rw [z2, del_same, hn]
        · rw [del_ne z2, e4 b z2 z, upd_ne z2]
    rw [same]
    exact q1 D eD
  have r2 : Vals (V.ref (hp.objs.size + 1) :: vs) (Value.ref (hp.objs.size + 1) :: us) := .cons rfl r1
  have hl : (Value.ref (hp.objs.size + 1) :: us ++ []).length = ps.length := by
    have e := r2.length
    rw [F1.len _ _ _ _ sp] at e
    rw [List.append_nil]
    exact e.symm
  have hus : us.length ≤ sizeLine := by
    rw [← Paired.length r1, hz, sizeLine_eq]
    omega
  have b2 := hb _ (Value.ref (hp.objs.size + 1) :: us) I2.kIn hl
  rw [List.append_nil] at b2
  refine wpAny_call (PySem.HandSPX.call_own T.bs.ex (mroF T.bs bm hbm).has (I1.kIn _ _ hC) (PySem.W.looks_findIn I1.kIn iC) (fun self => PySem.W.bind_fn I1.kIn self tI) hus
    (codeAny_mono (F1.run _ X.stack _ _ ⟨Value.ref (hp.objs.size + 1) :: us, []⟩ (Value.ref (hp.objs.size + 1) :: us) _ _ (fun _ _ _ => False) (hr.make C us []) (I2.env0.make C us []) b2 r2 sp) fun r s2 hq => ?_))
  cases r with
  | error er => exact hq.elim
  | ok fl =>
    cases fl with
    | ret u =>
      obtain ⟨v, H2, os2, bare2, un2, hok2, rv, ev, D, ea, ed, hd1, q2⟩ := hq
      subst ev
      obtain ⟨h2, g2, d2, t2, os'⟩ := s2
      obtain ⟨t0, G, J, kG, ge, hoe, na⟩ := mk_end0 (d2 := d2) (t2 := t2) I1 up kk un2 hok2 os2 bare2 ea ed hd1
      refine ⟨rv, ⟨hp.objs.size + 1, _, _, ⟨G, g2, d2, t2, os'⟩, _, .ref C, some D, rfl, J, kG, ge, hoe, ⟨rfl, rfl, fun vs hv => ?_⟩, rfl, rfl, na, rfl, bare2, raises_own T.exC T.tyC, q2⟩⟩
      cases hv
      rfl
    | next => exact False.elim hq
    | brk => exact False.elim hq
    | cont => exact False.elim hq
end
end Ev
end
section
set_option maxRecDepth 100000
set_option maxHeartbeats 4000000
/-! try with except clauses of one class or two, with a name or without -/
namespace Ev
open PySem PySem.Spec PyProof.Rows L2
theorem fly_keeps {B h h2 : Heap} {l : List Env} {a : Addr} {Z : Obj → Prop} (f : HandSPX.FlyingZ B l a Z h) (k : ∀ b o, h.get? b = some o → h2.get? b = some o) : HandSPX.FlyingZ B l a Z h2 := by
  obtain ⟨f1, f2, f3, oe, vs, T, oT, ts, g1, g2, g3, g4, g5, g6, g7, g8, g9⟩ := f
  exact ⟨fun b o e => k b o (f1 b o e), f2, f3.of_keeps fun b o e _ => ⟨o, k b o e, rfl⟩, oe, vs, T, oT, ts, k _ _ g1, g2, g3, g4, g5, g6, k _ _ g7, g8, g9⟩
abbrev TSX := Addr → Value → Option Addr → TS
abbrev HdR := List Value × Option Nat × TSX
inductive TestX (X : Cx) : Expr → List Value → Prop
  | one {x : Str} {c : Value} {p : Pos} : Names X x c → TestX X (.Name x p) [c]
  | two {x y : Str} {c c2 : Value} {p p2 pos : Pos} {k : Nat} : Names X x c → Names X y c2 → TestX X (.Tuple [.Name x p, .Name y p2] k pos) [c, c2]
def goneD (D : Ends) : Option Nat → Ends
  | none => D
  | some i => { nx := fun σ H => D.nx (σ.set i none) H, rt := D.rt, bk := fun σ H => D.bk (σ.set i none) H, ct := fun σ H => D.ct (σ.set i none) H }
def namedS (σ : L2.St) (a : Addr) : Option Nat → L2.St
  | none => σ
  | some i => σ.set i (some (.ref a))
inductive HdsX (X : Cx) : List ExceptHandler → List HdR → Prop
  | nil : HdsX X [] []
  | anon {te : Expr} {cs : List Value} {ts : TSX} {b0 : Stmt} {su : List Stmt} {pos : Pos} {hds : List ExceptHandler} {l : List HdR} (ht : TestX X te cs)
      (hs : ∀ (a : Addr) (oe : Obj) (cls : Value) (d : Option Addr) (pn : List (Addr × Obj)), L2N.Zn cls d oe → (∃ vs, oe.data = .fields vs) → PSs (X.suite a ((a, oe) :: pn)) (b0 :: su) (ts a cls d)) (r : HdsX X hds l) :
      HdsX X (.ExceptHandler (some te) none (b0 :: su) pos :: hds) ((cs, none, ts) :: l)
  | named {te : Expr} {cs : List Value} {ts : TSX} {b0 : Stmt} {su : List Stmt} {pos : Pos} {hds : List ExceptHandler} {l : List HdR} {n : Str} {i : Nat} (ht : TestX X te cs) (hi : X.N[i]? = some n) (hln : X.env.kindOf n = some .local)
      (hs : ∀ (a : Addr) (oe : Obj) (cls : Value) (d : Option Addr) (pn : List (Addr × Obj)), L2N.Zn cls d oe → (∃ vs, oe.data = .fields vs) → PSs (X.suite a ((a, oe) :: pn)) (b0 :: su) (ts a cls d)) (r : HdsX X hds l) :
      HdsX X (.ExceptHandler (some te) (some n) (b0 :: su) pos :: hds) ((cs, some i, ts) :: l)
/-- what is wished of an exception of the body -/
def wX (K : PySem.W.Frag) (Wo : WX) (D : Ends) : List HdR → WX
  | [] => Wo
  | (cs, i, ts) :: r => fun cls d σ H => ∃ b, PySem.W.exmAny K cls cs = some b ∧ (b = true → ∀ a, H a = none → ts a cls d (goneD D i) (namedS σ a i) H) ∧ (b = false → wX K Wo D r cls d σ H)
section
variable {X : Cx} {body : List Stmt} {h0 : ExceptHandler} {hds : List ExceptHandler} {l : List HdR} {pos : Pos} {tb : WX → TS} {Wo : WX}
theorem ld_name {pins : List (Addr × Obj)} {σ : L2.St} {H : Hp} {s : Shared} {x : Str} {c : Value} {p : Pos} {P : Value → Shared → Prop} {E : Value → Shared → Prop} (I : Inv X pins σ H s) (hc : Names X x c) (q : P c s) : wpAny (model X.prog X.w) X.A (eval (.Name x p) X.env) P E s := by
  obtain ⟨hg, hd, hm | ⟨hm, hv, hn⟩⟩ := hc
  · exact ld_glob I hg hm q hd
  · exact ld_blt I hg hm hv q hn hd
theorem ps_try_x (hs : X.stack = X.env :: X.outer) (hf : X.env.frame = some X.env.locals) (hN : X.N.Nodup) (tk : L2N.Takes X Wo)
    (hb : ∀ (W : WX) (pn : List (Addr × Obj)) (xe : Value → Shared → Prop), L2N.Takes (X.tr pn xe) W → PassesOwn (model X.prog X.w) X.A X.env xe → PSs (X.tr pn xe) body (tb W))
    (hh : HdsX X (h0 :: hds) l) : PS X (.Try body (h0 :: hds) [] [] pos) (fun D σ H => tb (wX X.K Wo D l) D σ H) := by
  refine ⟨fun pins s σ H D I h => ?_⟩
  have ok := I.ok
  have hfr : X.A.frames = some (X.env :: X.outer) := by rw [ok.frames, hs]
  refine wpAny_Try_except ?_
  refine wpAny_mono ((hb (wX X.K Wo D l) (X.pn ++ pins) (fun e s1 => wpAny (model X.prog X.w) X.A (noteFrame e X.env) (fun _ s2 => wpAny (model X.prog X.w) X.A (setFlight e none) (fun _ s3 =>
    wpAny (model X.prog X.w) X.A (handleBy e X.env (h0 :: hds)) (SP X pins D) X.xe s3) X.xe s2) X.xe s1) (fun u s2 xx => ?_) PassesOwn.looking).run [] s σ H D (I.toTry _) h) (fun f s1 hsp => ?_) (fun e s1 he => he)
  · obtain ⟨a, B, sI, pins2, σ2, H2, cls, d, rfl, J2, nb, up, sky, na, os, ag, w⟩ := xx
    have J : Inv X pins σ2 H2 sI := J2.ofTry ok
    have sky2 : Sky B (X.env :: X.outer) a (L2N.Zn cls d) X.env.locals s2.heap := by rw [← hs]; exact sky
    show wpAny (model X.prog X.w) X.A (noteFrame (.ref a) X.env) _ _ _
    refine L2N.Sky.land L2N.Zn.steady hfr hf sky2 fun h3 fl3 up3 => ?_
    have apart : ∀ {h : Heap}, HandSPX.FlyingZ B (X.env :: X.outer) a (L2N.Zn cls d) h → a ≠ X.env.locals ∧ a ∉ X.fs := fun {h} fl => by
      obtain ⟨oe, vs, he, hz, hd⟩ := fl.there
      have nfr : a ∉ frs (X.env :: X.outer) := fun hm => by
        obtain ⟨_, o2, e2, hnf⟩ := fl.2.2.1.mem hm
        rw [he] at e2; cases e2
        exact hnf _ hd
      exact ⟨fun z => nfr (List.mem_filterMap.mpr ⟨X.env, List.mem_cons_self, by rw [hf, z]⟩), fun hm => by
        obtain ⟨e, he, q⟩ := List.mem_filterMap.mp hm
        exact nfr (List.mem_filterMap.mpr ⟨e, List.mem_cons_of_mem _ he, q⟩)⟩
    have tst : ∀ {te : Expr} {cs : List Value} {b : Bool} {h : Heap} {P : Bool → Shared → Prop} {E E2 : Value → Shared → Prop}, TestX X te cs → PySem.W.exmAny X.K cls cs = some b → HandSPX.FlyingZ B (X.env :: X.outer) a (L2N.Zn cls d) h → s2.heap.UpToSlots h →
        (∀ h4, HandSPX.FlyingZ B (X.env :: X.outer) a (L2N.Zn cls d) h4 → s2.heap.UpToSlots h4 → P b { s2 with heap := h4 }) →
        wpAny (model X.prog X.w) (X.A.mark (some (.ref a))) (eval te X.env) (fun c s4 => wpAny (model X.prog X.w) (X.A.mark (some (.ref a))) (excMatches (.ref a) c) P E2 s4) E { s2 with heap := h } := by
      intro te cs b h P E E2 ht hx fl uph q
      obtain ⟨nL, nF⟩ := apart fl
      have J3 : Inv X pins σ2 H2 { s2 with heap := h } := J.landed nb fl.1 (up.trans uph) os ag
      obtain ⟨oe, vs, he, hz, hd⟩ := fl.there
      have S3 := J3.suite he hd na nL nF
      have LT : PySem.W.Looks (model X.prog X.w) h (typeOf (.ref a)) cls := fun A Q E s k q => wpAny_typeOf_ref (k _ _ he) (by rw [hz.1]; exact q)
      cases ht with
      | one hc =>
        obtain ⟨b1, d1, x1, x2, rfl⟩ := PySem.W.exmAny_cons hx
        cases x2
        refine ld_name (X := X.suite a ((a, oe) :: (X.pn ++ pins))) S3 hc ?_
        exact (PySem.W.exm_one (M := model X.prog X.w) J3.kIn LT x1).here (by rw [Bool.or_false] at q; exact q h fl uph)
      | two hc hc2 =>
        rename_i x y c c2 p p2 pos kk
        refine wpAny_Tuple_spliced (Calls.spliced_cons (ld_name (X := X.suite a ((a, oe) :: (X.pn ++ pins))) S3 hc (Calls.spliced_cons (ld_name (X := X.suite a ((a, oe) :: (X.pn ++ pins))) S3 hc2 (Calls.spliced_nil ⟨by simp [sizeLine_eq], ?_⟩)))))
        have kp : ∀ b o, h.get? b = some o → (h.push { cls := .type "tuple", data := .seq [c, c2].toArray }).get? b = some o := fun b o e => Heap.get?_push_of_some _ e
        have LT2 := LT.keeps kp
        have LM := PySem.W.exm_tup2 (M := model X.prog X.w) (K := X.K) (J3.kIn.keeps kp) LT2 (Heap.get?_push_size h rfl) hx
        exact LM.here (q _ (fly_keeps fl kp) (uph.trans (Heap.UpToSlots.of_keeps kp)))
    have go : ∀ {hds2 : List ExceptHandler} {l2 : List HdR}, HdsX X hds2 l2 → ∀ h, HandSPX.FlyingZ B (X.env :: X.outer) a (L2N.Zn cls d) h → s2.heap.UpToSlots h → wX X.K Wo D l2 cls d σ2 H2 →
        wpAny (model X.prog X.w) X.A (handleBy (.ref a) X.env hds2) (SP X pins D) X.xe { s2 with heap := h } := by
      intro hds2 l2 hk
      induction hk with
      | nil =>
        intro h fl uph w
        refine wpAny_handleBy_nil ?_
        obtain ⟨k1, k2, k3, oe, vs, T, oT, ts2, he, hz, hd, h1, hr⟩ := id fl
        unfold PySem.passOn
        refine wpAny_bind (wpAny_field he hd h1 ?_)
        rw [if_neg (show ¬ ((Value.ref T == Value.none) = true) from by simp)]
        have fin : wpAny (model X.prog X.w) X.A (setFlight (.ref a) X.env.frame) (fun _ s4 => wpAny (model X.prog X.w) X.A (throw (.ref a) : Sem Flow) (SP X pins D) X.xe s4) X.xe { s2 with heap := h } := by
          rw [hf]
          refine HandSPX.setFlight_upZ fl fun h4 hh4 up4 => wpAny_throw (tk _ _ ?_)
          exact ⟨a, B, sI, pins, σ2, H2, cls, d, rfl, J, nb, (up.trans uph).trans up4, .inr (.inr (by rw [hs]; exact hh4)), na, os, ag, w⟩
        first
          | exact wpAny_bind (wpAny_pure (wpAny_bind fin))
          | exact wpAny_bind fin
      | @anon te cs ts b0 su pos hds3 l3 ht hsu r ih =>
        intro h fl uph w
        obtain ⟨b, hb1, yes, no⟩ := w
        refine wpAny_handleBy_cons (codeAny_handlers_test (tst ht hb1 fl uph fun h4 fl4 up4 => ?_)) (by intro q; cases q)
        cases b with
        | true =>
          refine codeAny_handlers_suite ?_
          refine HandSPX.lands_againZ fl4 fun h5 fl5 up5 => ?_
          obtain ⟨nL, nF⟩ := apart fl5
          have J5 : Inv X pins σ2 H2 { s2 with heap := h5 } := J.landed nb fl5.1 ((up.trans up4).trans up5) os ag
          obtain ⟨oe, vs, he, hz, hd⟩ := fl5.there
          have S5 := J5.suite he hd na nL nF
          refine wpAny_mono ((hsu a oe cls d (X.pn ++ pins) hz ⟨_, hd⟩).run [] _ _ H2 _ S5 (yes rfl a na)) (fun f s6 q => ?_) (fun _ _ z => False.elim z)
          cases f with
          | next =>
            obtain ⟨σ6, H6, S6, q6⟩ := q
            exact ⟨_, _, S6.unsuite ok, q6⟩
          | brk =>
            obtain ⟨σ6, H6, S6, q6⟩ := q
            exact ⟨_, _, S6.unsuite ok, q6⟩
          | cont =>
            obtain ⟨σ6, H6, S6, q6⟩ := q
            exact ⟨_, _, S6.unsuite ok, q6⟩
          | ret u =>
            obtain ⟨v6, σ6, H6, S6, r6, q6⟩ := q
            exact ⟨_, _, _, S6.unsuite ok, r6, q6⟩
        | false => exact ih h4 fl4 up4 (no rfl)
      | @named te cs ts b0 su pos hds3 l3 n i ht hi hln hsu r ih =>
        intro h fl uph w
        obtain ⟨b, hb1, yes, no⟩ := w
        refine wpAny_handleBy_cons (codeAny_handlers_test (tst ht hb1 fl uph fun h4 fl4 up4 => ?_)) (by intro q; cases q)
        cases b with
        | true =>
          refine codeAny_handlers_suite_as ?_
          refine HandSPX.lands_againZ fl4 fun h5 fl5 up5 => ?_
          obtain ⟨nL, nF⟩ := apart fl5
          have J5 : Inv X pins σ2 H2 { s2 with heap := h5 } := J.landed nb fl5.1 ((up.trans up4).trans up5) os ag
          obtain ⟨oe, vs, he, hz, hd⟩ := fl5.there
          have S5 := J5.suite he hd na nL nF
          refine store_ok (X := X.suite a ((a, oe) :: (X.pn ++ pins))) (v := .ref a) S5 hN hi (.inl hln) rfl (fun s6 S6 => ?_) (.inr hln)
          refine wpAny_mono ((hsu a oe cls d (X.pn ++ pins) hz ⟨_, hd⟩).run [] s6 _ H2 _ S6 (yes rfl a na)) (fun f s7 q => ?_) (fun _ _ z => False.elim z)
          have off : ∀ {σ7 : L2.St} {H7 : Hp} {Q : Shared → Prop}, Inv (X.suite a ((a, oe) :: (X.pn ++ pins))) [] σ7 H7 s7 → (∀ s8, Inv X pins (σ7.set i none) H7 s8 → Q s8) →
              wpAny (model X.prog X.w) X.A (do bindName X.env n .none; unbindBehindTheSuite X.env n pos) (fun _ s8 => Q s8) X.xe s7 := fun {σ7 H7 Q} S7 hq => gone_ok (S7.unsuite ok) hN hi hln hq
          cases f with
          | next =>
            obtain ⟨σ7, H7, S7, q7⟩ := q
            exact off S7 fun s8 J8 => ⟨_, _, J8, q7⟩
          | brk =>
            obtain ⟨σ7, H7, S7, q7⟩ := q
            exact off S7 fun s8 J8 => ⟨_, _, J8, q7⟩
          | cont =>
            obtain ⟨σ7, H7, S7, q7⟩ := q
            exact off S7 fun s8 J8 => ⟨_, _, J8, q7⟩
          | ret u =>
            obtain ⟨v7, σ7, H7, S7, r7, q7⟩ := q
            exact off S7 fun s8 J8 => ⟨_, _, _, J8, r7, q7⟩
        | false => exact ih h4 fl4 up4 (no rfl)
    exact go hh h3 fl3 up3 w
  · cases f with
    | next =>
      obtain ⟨σ2, H2, J2, q⟩ := hsp
      exact wpAny_execs_nil ⟨σ2, H2, J2.ofTry ok, q⟩
    | brk =>
      obtain ⟨σ2, H2, J2, q⟩ := hsp
      exact ⟨σ2, H2, J2.ofTry ok, q⟩
    | cont =>
      obtain ⟨σ2, H2, J2, q⟩ := hsp
      exact ⟨σ2, H2, J2.ofTry ok, q⟩
    | ret u =>
      obtain ⟨v, σ2, H2, J2, r, q⟩ := hsp
      exact ⟨v, σ2, H2, J2.ofTry ok, r, q⟩
end
end Ev
end
section
set_option maxRecDepth 10000
namespace Ev
open PySem PySem.Spec PyProof.Rows L2

/-! ### weaker readings -/
section
variable {X : Cx} {e : Expr}
theorem PE.weak {t t' : TE} (h : PE X e t) (w : ∀ σ H Q, t' σ H Q → t σ H Q) : PE X e t' := ⟨fun pins s σ H Q I q => h.run pins s σ H Q I (w σ H Q q)⟩
theorem PT.weak {t t' : TT} (h : PT X e t) (w : ∀ σ H Q, t' σ H Q → t σ H Q) : PT X e t' := ⟨fun pins s σ H Q I q => h.run pins s σ H Q I (w σ H Q q)⟩
theorem PW.weak {t t' : TT} (h : PW X e t) (w : ∀ σ H Q, t' σ H Q → t σ H Q) : PW X e t' := ⟨fun wh pins s σ H Q I q => h.run wh pins s σ H Q I (w σ H Q q)⟩
theorem PA.weak {es : List Expr} {t t' : TA} (h : PA X es t) (w : ∀ σ H Q, t' σ H Q → t σ H Q) : PA X es t' := ⟨fun pos pins s σ H Q I q => h.run pos pins s σ H Q I (w σ H Q q)⟩
theorem PG.weak {t t' : TG} (h : PG X e t) (w : ∀ v σ H Q, t' v σ H Q → t v σ H Q) : PG X e t' := ⟨fun pins s σ H v u Q I r q => h.run pins s σ H v u Q I r (w v σ H Q q)⟩
theorem PGs.weak {es : List Expr} {t t' : TGs} (h : PGs X es t) (w : ∀ v σ H Q, t' v σ H Q → t v σ H Q) : PGs X es t' := ⟨fun pins s σ H v u Q I r q => h.run pins s σ H v u Q I r (w v σ H Q q)⟩
theorem PS.weak {st : Stmt} {t t' : TS} (h : PS X st t) (w : ∀ D σ H, t' D σ H → t D σ H) : PS X st t' := ⟨fun pins s σ H D I q => h.run pins s σ H D I (w D σ H q)⟩
theorem PSs.weak {st : List Stmt} {t t' : TS} (h : PSs X st t) (w : ∀ D σ H, t' D σ H → t D σ H) : PSs X st t' := ⟨fun pins s σ H D I q => h.run pins s σ H D I (w D σ H q)⟩
end

/-! ### a result, wished for; Z: what is wished of an exception -/
def Wn (K : Ky) (Z : XK) (F : List Addr) {α β : Type} (rel : Hp → List Addr → β → α → Prop) (ρ : List Addr) (H : Hp) (r : Res α) (Q : β → Hp → Prop) : Prop :=
  match r with
  | .ok v st => ∀ ρ' x H', Nx ρ H ρ' H' → SR K H' ρ' F st → rel H' ρ' x v → Q x H'
  | .ex c fs st => ∀ ρ' H' C d, Nx ρ H ρ' H' → SR K H' ρ' F st → XC K c C → XF K H' (ρ' ++ F) d fs → Z (.ref C) (some d) H'
  | .no => False
abbrev relV (K : Ky) (F : List Addr) : Hp → List Addr → V → Vl → Prop := fun H ρ v x => RV K H F ρ v x
abbrev relVs (K : Ky) (F : List Addr) : Hp → List Addr → List V → List Vl → Prop := fun H ρ v x => RVs K H F ρ v x
abbrev relB : Hp → List Addr → Bool → Bool → Prop := fun _ _ v x => v = x
section
variable {K : Ky} {Z : XK} {F : List Addr} {α β γ δ : Type} {rel : Hp → List Addr → β → α → Prop} {ρ ρ1 : List Addr} {H H1 : Hp} {Q : β → Hp → Prop}
/-- a first part and what comes behind -/
theorem Wn.bnd {rel' : Hp → List Addr → δ → γ → Prop} {r : Res γ} {f : γ → Sto → Res α} {Q' : δ → Hp → Prop} (h : Wn K Z F rel ρ H (r.bnd f) Q)
    (q : ∀ v st, r = .ok v st → Wn K Z F rel ρ H (f v st) Q → ∀ ρ' x H', Nx ρ H ρ' H' → SR K H' ρ' F st → rel' H' ρ' x v → Q' x H') : Wn K Z F rel' ρ H r Q' := by
  cases r with
  | ok v st => exact q v st rfl h
  | ex c fs st => exact h
  | no => exact h.elim
theorem Wn.inv {r : Res γ} {f : γ → Sto → Res α} (h : Wn K Z F rel ρ H (r.calm.bnd f) Q) : ∃ v st, r = .ok v st ∧ Wn K Z F rel ρ H (f v st) Q := by
  cases r with
  | ok v st => exact ⟨v, st, rfl, h⟩
  | ex c fs st => exact h.elim
  | no => exact h.elim
/-- .. from a later state on -/
theorem Wn.bndN {rel' : Hp → List Addr → δ → γ → Prop} {r : Res γ} {f : γ → Sto → Res α} {Q' : δ → Hp → Prop} (h : Wn K Z F rel ρ H (r.bnd f) Q) (n : Nx ρ H ρ1 H1)
    (q : ∀ v st, r = .ok v st → Wn K Z F rel ρ H (f v st) Q → ∀ ρ' x H', Nx ρ1 H1 ρ' H' → SR K H' ρ' F st → rel' H' ρ' x v → Q' x H') : Wn K Z F rel' ρ1 H1 r Q' := by
  cases r with
  | ok v st => exact q v st rfl h
  | ex c fs st => exact fun ρ' H' C d n' => h ρ' H' C d (n.trans n')
  | no => exact h.elim
theorem Wn.nx {r : Res α} (n : Nx ρ H ρ1 H1) (h : Wn K Z F rel ρ H r Q) : Wn K Z F rel ρ1 H1 r Q := by
  cases r with
  | ok v st => exact fun ρ' x H' n' => h ρ' x H' (n.trans n')
  | ex c fs st => exact fun ρ' H' C d n' => h ρ' H' C d (n.trans n')
  | no => exact h.elim
theorem Wn.fin {v : α} {st : Sto} {x : β} (h : Wn K Z F rel ρ H (.ok v st) Q) (s : SR K H ρ F st) (r : rel H ρ x v) : Q x H := h ρ x H s.refl s r
theorem Wn.asD {v : Vl} {st : Sto} {f : D → Sto → Res α} (h : Wn K Z F rel ρ H ((Ev.asD v st).bnd f) Q) : ∃ d, rd st v = some d ∧ Wn K Z F rel ρ H (f d st) Q := by
  unfold Ev.asD at h
  cases e : rd st v with
  | some d => rw [e] at h; exact ⟨d, rfl, h⟩
  | none => rw [e] at h; exact h.elim
end
def tV (K : Ky) (W : WX) (f : Envr → Sto → Res Vl) : TE := fun σ H Q => ∃ ρ F st env, SR K H ρ F st ∧ ER K H F ρ σ env ∧ Wn K (fun c d => W c d σ) F (relV K F) ρ H (f env st) Q
def tVs (K : Ky) (W : WX) (f : Envr → Sto → Res (List Vl)) : TA := fun σ H Q => ∃ ρ F st env, SR K H ρ F st ∧ ER K H F ρ σ env ∧ Wn K (fun c d => W c d σ) F (relVs K F) ρ H (f env st) Q
def tT (K : Ky) (W : WX) (f : Envr → Sto → Res Vl) : TT := fun σ H Q => ∃ ρ F st env, SR K H ρ F st ∧ ER K H F ρ σ env ∧ Wn K (fun c d => W c d σ) F relB ρ H (tst (f env st)) Q
theorem Wn.lift {K : Ky} {Z : XK} {F ρ : List Addr} {H : Hp} {o : Option D} {st : Sto} {Q : V → Hp → Prop} (h : Wn K Z F (relV K F) ρ H (Ev.lift o st) Q) (s : SR K H ρ F st) :
    ∃ c, o = some c ∧ ∀ z H', New K H (ρ ++ F) z c H' → Q z H' := by
  cases o with
  | none => exact h.elim
  | some c =>
    refine ⟨c, rfl, fun z H' n => ?_⟩
    obtain ⟨n1, s1, r1⟩ := n.done s
    exact h ρ z H' n1 s1 r1
theorem Wn.ret {K : Ky} {Z : XK} {F ρ : List Addr} {H H' : Hp} {c : D} {z : V} {st : Sto} {Q : V → Hp → Prop} (h : Wn K Z F (relV K F) ρ H (.ok (.d c) st) Q) (s : SR K H ρ F st) (n : New K H (ρ ++ F) z c H') : Q z H' := by
  obtain ⟨n1, s1, r1⟩ := n.done s
  exact h ρ z H' n1 s1 r1

/-! ### calls with keywords -/
/-- the values in the parameters' order; mv: those of the parameters that lack -/
def kaU {α : Type} (z : α) : List KA → List α → List α → List α
  | [], _, _ => []
  | .ix i :: r, a, mv => (a[i]?).getD z :: kaU z r a mv
  | _ :: r, a, [] => z :: kaU z r a []
  | _ :: r, a, m :: mv => m :: kaU z r a mv
def kaD (cs : List D) : KA → Option D
  | .ix _ => none
  | .int n => some (.int n)
  | .non => some .none
  | .cst i => cs[i]?
  | .pr a b => some (.tuple [.int a, .int b])
def isIx : KA → Bool
  | .ix _ => true
  | _ => false
/-- the data of those that lack -/
def dfsD (cs : List D) : List KA → Option (List D)
  | [] => some []
  | a :: r => if isIx a then dfsD cs r else match kaD cs a, dfsD cs r with
    | some d, some ds => some (d :: ds)
    | _, _ => none
theorem kaU_len {α : Type} {z : α} : ∀ (arr : List KA) (a mv : List α), (kaU z arr a mv).length = arr.length
  | [], _, _ => rfl
  | .ix i :: r, a, mv => by simp [kaU, kaU_len r]
  | .int _ :: r, a, [] => by simp [kaU, kaU_len r]
  | .non :: r, a, [] => by simp [kaU, kaU_len r]
  | .cst _ :: r, a, [] => by simp [kaU, kaU_len r]
  | .pr _ _ :: r, a, [] => by simp [kaU, kaU_len r]
  | .int _ :: r, a, m :: mv => by simp [kaU, kaU_len r]
  | .non :: r, a, m :: mv => by simp [kaU, kaU_len r]
  | .cst _ :: r, a, m :: mv => by simp [kaU, kaU_len r]
  | .pr _ _ :: r, a, m :: mv => by simp [kaU, kaU_len r]
theorem vals_get {vs : List V} {us : List Value} (h : Vals vs us) (i : Nat) : RelV ((vs[i]?).getD .non) ((us[i]?).getD .none) := by
  induction h generalizing i with
  | nil => exact rfl
  | cons a r ih =>
    cases i with
    | zero => simpa using a
    | succ i => simpa using ih i
theorem kaU_vals {vs mz : List V} {us mv : List Value} (h : Vals vs us) : ∀ (arr : List KA) {mz : List V} {mv : List Value}, Vals mz mv → Vals (kaU .non arr vs mz) (kaU .none arr us mv)
  | [], _, _, _ => .nil
  | .ix i :: r, _, _, m => .cons (vals_get h i) (kaU_vals (mz := mz) (mv := mv) h r m)
  | .int _ :: r, _, _, .nil => .cons rfl (kaU_vals (mz := mz) (mv := mv) h r .nil)
  | .non :: r, _, _, .nil => .cons rfl (kaU_vals (mz := mz) (mv := mv) h r .nil)
  | .cst _ :: r, _, _, .nil => .cons rfl (kaU_vals (mz := mz) (mv := mv) h r .nil)
  | .pr _ _ :: r, _, _, .nil => .cons rfl (kaU_vals (mz := mz) (mv := mv) h r .nil)
  | .int _ :: r, _, _, .cons a m => .cons a (kaU_vals (mz := mz) (mv := mv) h r m)
  | .non :: r, _, _, .cons a m => .cons a (kaU_vals (mz := mz) (mv := mv) h r m)
  | .cst _ :: r, _, _, .cons a m => .cons a (kaU_vals (mz := mz) (mv := mv) h r m)
  | .pr _ _ :: r, _, _, .cons a m => .cons a (kaU_vals (mz := mz) (mv := mv) h r m)
theorem rvs_get {K : Ky} {H : Hp} {F ρ : List Addr} {vs : List V} {xs : List Vl} (h : RVs K H F ρ vs xs) {i : Nat} {x : Vl} (e : xs[i]? = some x) : RV K H F ρ ((vs[i]?).getD .non) x := by
  induction h generalizing i with
  | nil => cases e
  | cons a r ih =>
    cases i with
    | zero => cases e; simpa using a
    | succ i => simpa using ih (by simpa using e)
theorem kaU_rvs {K : Ky} {H : Hp} {F ρ : List Addr} {cs : List D} {vs : List V} {xs : List Vl} (h : RVs K H F ρ vs xs) : ∀ (arr : List KA) {mz : List V} {ds : List D} {ys : List Vl}, RpA K H (ρ ++ F) mz ds → dfsD cs arr = some ds → kaVs cs xs arr = some ys → RVs K H F ρ (kaU .non arr vs mz) ys
  | [], _, _, _, _, _, e => by cases e; exact .nil
  | a :: r, mz, ds, ys, m, e1, e2 => by
    unfold kaVs at e2
    cases q1 : kaV cs xs a with
    | none => rw [q1] at e2; cases e2
    | some y =>
      cases q2 : kaVs cs xs r with
      | none => rw [q1, q2] at e2; cases e2
      | some ys' =>
        rw [q1, q2] at e2
        cases e2
        cases ha : isIx a with
        | true =>
          cases a <;> first | (cases ha; done) | skip
          rename_i i
          rw [dfsD, if_pos ha] at e1
          exact .cons (rvs_get h q1) (kaU_rvs h r m e1 q2)
        | false =>
          rw [dfsD, if_neg (by rw [ha]; exact Bool.false_ne_true)] at e1
          cases q3 : kaD cs a with
          | none => rw [q3] at e1; cases e1
          | some d =>
            cases q4 : dfsD cs r with
            | none => rw [q3, q4] at e1; cases e1
            | some ds' =>
              rw [q3, q4] at e1
              cases e1
              have hy : y = .d d := by
                cases a <;> first | (cases ha; done) | skip
                · cases q1; cases q3; rfl
                · cases q1; cases q3; rfl
                · rename_i i
                  have z1 : (cs[i]?).map Vl.d = some y := q1
                  have z2 : cs[i]? = some d := q3
                  rw [z2] at z1
                  exact (Option.some.inj z1).symm
                · cases q1; cases q3; rfl
              subst hy
              cases m with
              | cons m1 m2 =>
                have go := kaU_rvs h r m2 q4 q2
                cases a <;> first | (cases ha; done) | exact .cons m1 go
/-- how a form of calls binds -/
def KBq (K : PySem.W.Frag) (cs : List D) (fd : FuncData) (ps : List Str) (q : KForm) : Prop := ∃ (mv : List Value) (mz : List V) (ds : List D), Vals mz mv ∧ dfsD cs q.arr = some ds ∧ (∀ H B, RpA K H B mz ds) ∧ q.arr.length = ps.length ∧
  ∀ (s : Shared) (us ws : List Value), K.In s.heap → us.length = q.np → ws.length = q.ks.length → BindsTo s fd ⟨us, q.ks.zip ws⟩ (ps.zip (kaU .none q.arr (us ++ ws) mv))
/-! ### calls of own functions -/
/-- a def keeps its promise, wherever no guard stands -/
structure FnG (P : Program) (w : World) (K : PySem.W.Frag) (mg : Str → Option Value) (base : Heap) (k : Nat) (f : Addr) (fd : FuncData) (ps : List Str) (sp : Sp) : Prop where
  len : ∀ vs H Q E, sp vs H Q E → vs.length = ps.length
  run : ∀ (A : Around) (outer : List Env) (s : Shared) (H : Hp) (args : Args) (us : List Value) (vs : List V) (Q : VK) (E : XK), A.guards = some [] → Room k A → Env0 P w K mg base A outer s H →
    BindsTo s fd args (ps.zip us) → Vals vs us → sp vs H Q E → codeAny (model P w) A (.call (.ref f) args) (CR (L2N.CX P w) outer P w H s Q E) s
def spF (K : Ky) (g : List Vl → Sto → Res Vl) : Sp := fun vs H Q E => ∃ ρ F st args, SR K H ρ F st ∧ RVs K H F ρ vs args ∧ Wn K E F (relV K F) ρ H (g args st) Q
/-- a def that is called where an exception is handled -/
structure FnX (P : Program) (w : World) (K : PySem.W.Frag) (mg : Str → Option Value) (base : Heap) (k : Nat) (f : Addr) (fd : FuncData) (ps : List Str) (g : List Vl → Sto → Res Vl) : Prop where
  len : ∀ xa vs H Q E, spF ⟨K, xa⟩ g vs H Q E → vs.length = ps.length
  run : ∀ (A : Around) (outer : List Env) (s : Shared) (H : Hp) (args : Args) (us : List Value) (vs : List V) (Q : VK) (E : XK) (p : Addr × Obj) (C d : Addr), A.guards = some [] → L2H.RoomH k A → L2H.Hot1 A p → p.2.cls = .ref C → p.2.dict = some d → L2H.PinOk outer H s p →
    Env0 P w K mg base A outer s H → BindsTo s fd args (ps.zip us) → Vals vs us → spF ⟨K, some (p.1, C, d)⟩ g vs H Q E → codeAny (model P w) A (.call (.ref f) args) (CR (L2N.CX P w) outer P w H s Q E) s
section
variable {X : Cx} {W : WX} {k : Nat} {f : Addr} {fd : FuncData} {ps : List Str} {sp : Sp} {x : Str} {p pos : Pos} {e : Expr} {es : List Expr} {t : TA}
theorem goX {pins : List (Addr × Obj)} {σ : L2.St} {H : Hp} {s : Shared} {Q : VK} {us : List Value} {vs : List V} {g : List Vl → Sto → Res Vl} {q : Addr × Obj} {C d : Addr} (G : FnX X.prog X.w X.K X.mg X.base k f fd ps g) (hg : X.A.guards = some []) (hr : L2H.RoomH k X.A) (hot : L2H.Hot1 X.A q) (hq : q ∈ X.pn) (hC : q.2.cls = .ref C) (hd : q.2.dict = some d) (tk : L2N.Takes X W) (hb : Binds X.K fd ps [])
    (I : Inv X pins σ H s) (r : Vals vs us) (h : spF ⟨X.K, some (q.1, C, d)⟩ g vs H Q (WE W σ)) : wpAny (model X.prog X.w) X.A (call (.ref f) us) (EP X pins σ Q) X.xe s := by
  have hl : us.length = ps.length := by
    rw [← r.length]
    exact G.len _ _ _ _ _ h
  have b := hb s us I.kIn (by simpa using hl)
  rw [List.append_nil] at b
  have P1 := I.pin q (List.mem_append_left _ hq)
  have hpin : L2H.PinOk X.stack H s q := ⟨P1.1, P1.2.1, fun hm => (List.mem_cons.mp (I.stkSub q.1 hm)).elim P1.2.2.1 P1.2.2.2.1, P1.2.2.2.2⟩
  refine wpAny_call (codeAny_mono (G.run X.A X.stack s H ⟨us, []⟩ us vs Q (WE W σ) q C d hg hr hot hC hd hpin I.env0 b r h) fun z s' hz => ?_)
  rcases z with e | fl
  · exact L2N.passAt tk σ pins H s e s' I hz
  · cases fl with
    | ret u => exact I.after hz
    | _ => exact (show False from hz).elim
theorem goG {pins : List (Addr × Obj)} {σ : L2.St} {H : Hp} {s : Shared} {Q : VK} {us : List Value} {vs : List V} (G : FnG X.prog X.w X.K X.mg X.base k f fd ps sp) (hg : X.A.guards = some []) (hr : Room k X.A) (tk : L2N.Takes X W) (hb : Binds X.K fd ps [])
    (I : Inv X pins σ H s) (r : Vals vs us) (h : sp vs H Q (WE W σ)) : wpAny (model X.prog X.w) X.A (call (.ref f) us) (EP X pins σ Q) X.xe s := by
  have hl : us.length = ps.length := by
    rw [← r.length]
    exact G.len _ _ _ _ h
  have b := hb s us I.kIn (by simpa using hl)
  rw [List.append_nil] at b
  refine wpAny_call (codeAny_mono (G.run X.A X.stack s H ⟨us, []⟩ us vs Q (WE W σ) hg hr I.env0 b r h) fun q s' z => ?_)
  rcases q with e | fl
  · exact L2N.passAt tk σ pins H s e s' I z
  · cases fl with
    | ret u => exact I.after z
    | _ => exact (show False from z).elim
theorem goK {pins : List (Addr × Obj)} {σ : L2.St} {H : Hp} {s : Shared} {Q : VK} {us ws : List Value} {vs zs : List V} {args : List Vl} {ys : List Vl} {cs : List D} {q : KForm} {g : List Vl → Sto → Res Vl} {ρ F : List Addr} {st : Sto} (G : FnG X.prog X.w X.K X.mg X.base k f fd ps (spF ⟨X.K, none⟩ g)) (hg : X.A.guards = some []) (hr : Room k X.A) (tk : L2N.Takes X W) (hb : KBq X.K cs fd ps q)
    (I : Inv X pins σ H s) (r : Vals vs us) (rz : Vals zs ws) (l1 : us.length = q.np) (l2 : ws.length = q.ks.length) (sr : SR X.K H ρ F st) (rv : RVs ⟨X.K, none⟩ H F ρ (vs ++ zs) args) (e : kaVs cs args q.arr = some ys) (h : Wn ⟨X.K, none⟩ (WE W σ) F (relV ⟨X.K, none⟩ F) ρ H (g ys st) Q) : wpAny (model X.prog X.w) X.A (call (.ref f) us (q.ks.zip ws)) (EP X pins σ Q) X.xe s := by
  obtain ⟨mv, mz, ds, m1, m2, m3, m4, bt⟩ := hb
  have b := bt s us ws I.kIn l1 l2
  refine wpAny_call (codeAny_mono (G.run X.A X.stack s H ⟨us, q.ks.zip ws⟩ _ _ Q (WE W σ) hg hr I.env0 b (kaU_vals (mz := mz) (mv := mv) (r.append rz) q.arr m1) ⟨ρ, F, st, ys, sr, kaU_rvs rv q.arr (m3 H (ρ ++ F)) m2 e, h⟩) fun q s' z => ?_)
  rcases q with e | fl
  · exact L2N.passAt tk σ pins H s e s' I z
  · cases fl with
    | ret u => exact I.after z
    | _ => exact (show False from z).elim
end

/-! ### facts of expressions by their form -/
theorem star1 {e : Expr} (h : noStar e = true) (es : List Expr) (env : Env) : starEach (e :: es) env = (false, eval e env) :: starEach es env := by
  cases e <;> first | rfl | (simp [noStar] at h; done)
theorem ixPlain {e : Expr} (h : noSlice e = true) : ∀ o i, subscripted e false o i = operate [o, i] (getItem o i) := by
  intro o i
  cases e <;> first | rfl | (simp [noSlice] at h; done)
theorem setPlain {e : Expr} (h : noSet e = true) (env : Env) : ∀ x, foldedSetIterable e env x = pure x := by
  intro x
  cases e <;> first | rfl | (simp [noSet] at h; done)
theorem inPlain {e : Expr} (h : noSet e = true) (op : CmpOp) : behindInMarks op e = false := by
  cases e <;> first | rfl | (simp [noSet] at h; done)
theorem basePlain {e : Expr} (h : noCall e = true) (n : Str) (env : Env) : attributeBase e n env (eval e env) = eval e env := by
  cases e <;> first | rfl | (simp [noCall] at h; done)
def plainT : Expr → Bool
  | .UnaryOp .Not _ _ => false
  | .BoolOp .. => false
  | .IfExp .. => false
  | .Compare .. => false
  | _ => true
theorem truePlain {e : Expr} (h : plainT e = true) (env : Env) : ∀ wh, isTrue e env wh = (do let v ← wh; standAt e.pos; holding [v] (truthy v)) := by
  intro wh
  cases e with
  | UnaryOp op a p => cases op <;> first | rfl | (simp [plainT] at h; done)
  | _ => first | rfl | (simp [plainT] at h; done)

/-! ### classes of exceptions -/
def NmV (mg : Str → Option Value) (n : Str) (v : V) (cv : Value) : Prop := (∃ A : Addr, mg n = some (.ref A) ∧ v = .ref A ∧ cv = .ref A) ∨ (∃ s : String, mg n = none ∧ bootBuiltins n = some (.type s) ∧ v = .ty s ∧ cv = .type s)
structure XT (P : Program) (w : World) (K : PySem.W.Frag) (mg : Str → Option Value) (base : Heap) (cs : List D) (XN : List (Str × List Str)) (FL CL : List Str) : Prop where
  nm : ∀ n, n ∈ CL → ∃ v cv, NmV mg n v cv
  made : ∀ c fs, (c, fs) ∈ XN → ∃ C B nw ini fI fd ps, XC K c C ∧ mg c = some (.ref C) ∧ OxC K C B nw ini ∧ PySem.W.findIn K (.ref C) "__init__" = some (some (.ref fI)) ∧ PySem.W.typeIn K (.ref fI) = some (.type "function") ∧ FnOk P w K mg base CX0 1 fI fd ps (spI C fs) ∧ Binds K fd ps [] ∧ fs.length ≤ 800 ∧ fs.Nodup
  is : ∀ c n b C, xsub cs c n = some b → XC K c C → ∃ v cv, NmV mg n v cv ∧ PySem.W.kitOne K (.ref C) cv = some b ∧ PySem.W.exmOne K (.ref C) cv = some b
  ex : ∀ c as C, ancD (ctOf cs) c = some as → XC K c C → (PySem.W.clsIn K C).isSome = true ∧ ExcC K C ∧ ∀ f ∈ FL, PySem.W.findIn K (.ref C) f = some none
/-! ### a text stands in a context -/
structure Gd (cs : List D) (cl : Nat → List Vl → Sto → Res Vl) (kk : Nat) (k : Ck) (X : Cx) (W : WX) (xa : Option (Addr × Addr × Addr)) : Prop where
  hN : X.N = k.N
  nd : X.N.Nodup
  sc : X.env.scope = k.sc
  fn : X.fn = k.fn
  calm : k.hot = false → X.calm = true
  guards : X.A.guards = some []
  room : k.hot = false → Room kk X.A
  roomH : L2H.RoomH kk X.A
  tk : L2N.Takes X W
  ps : PassesOwn (model X.prog X.w) X.A X.env X.xe
  xn : k.hot = false → xa = none
  hx : ∀ a C d, xa = some (a, C, d) → ∃ oe, (a, oe) ∈ X.pn ∧ L2H.Hot1 X.A (a, oe) ∧ oe.cls = .ref C ∧ oe.dict = some d
  xs : k.hot = true → ∃ a C d, xa = some (a, C, d)
  fnh : ∀ (f : Nat) (x : Str), k.FH[f]? = some 1 → k.FN[f]? = some x → ∃ fa fd ps, X.mg x = some (.ref fa) ∧ PySem.W.keepIn X.K (.ref fa) = true ∧ Binds X.K fd ps [] ∧ FnX X.prog X.w X.K X.mg X.base kk fa fd ps (cl f)
  fns : ∀ (f : Nat) (x : Str), k.FH[f]? = some 0 → k.FN[f]? = some x → ∃ fa fd ps, X.mg x = some (.ref fa) ∧ PySem.W.keepIn X.K (.ref fa) = true ∧ Binds X.K fd ps [] ∧ FnG X.prog X.w X.K X.mg X.base kk fa fd ps (spF ⟨X.K, none⟩ (cl f))
  kfs : ∀ (j : Nat) (q : KForm), k.KF[j]? = some q → ∃ fa fd ps, X.mg q.name = some (.ref fa) ∧ PySem.W.keepIn X.K (.ref fa) = true ∧ KBq X.K cs fd ps q ∧ FnG X.prog X.w X.K X.mg X.base kk fa fd ps (spF ⟨X.K, none⟩ (cl q.f))
  two : 2 ≤ kk
  xt : XT X.prog X.w X.K X.mg X.base cs k.XN k.FL k.CL
  blt : ∀ x, x ∈ k.BN → X.mg x = none
  cst : ∀ (i : Nat) (x : Str) (v : D), k.CN[i]? = some x → cs[i]? = some v → ∃ u z, X.mg x = some u ∧ RelV z u ∧ ∀ H B, Rp X.K H B z v
section
variable {cs : List D} {cl : Nat → List Vl → Sto → Res Vl} {kk : Nat} {k : Ck} {X : Cx} {W : WX} {xa : Option (Addr × Addr × Addr)}
theorem Gd.units (g : Gd cs cl kk k X W xa) : X.A.units + 200 < cLine := by
  have := g.roomH.un
  omega
theorem Gd.gl (g : Gd cs cl kk k X W xa) {x : Str} (h : glB k.sc x = true) : Gl X x ∧ (x == ("__debug__" : Str)) = false ∧ x ≠ "__name__" := by
  unfold glB at h
  rw [Bool.and_eq_true] at h
  obtain ⟨h1, h2⟩ := h
  unfold dbg at h2
  simp only [Bool.and_eq_true, Bool.not_eq_true', decide_eq_false_iff_not] at h2
  refine ⟨?_, h2.1.1, h2.2⟩
  show X.env.scope.names.lookup x = some .globalImplicit
  rw [g.sc]
  split at h1
  · assumption
  · cases h1
theorem Gd.vis (g : Gd cs cl kk k X W xa) {x : Str} (h : visB k.sc x = true) : Vis X.env.scope x := by
  unfold Vis
  rw [g.sc]
  unfold visB at h
  split at h
  · exact .inl (by assumption)
  · exact .inr (.inl (by assumption))
  · exact .inr (.inr (by assumption))
  · cases h
theorem Gd.loc (g : Gd cs cl kk k X W xa) {x : Str} (h : locB k x = true) : L2.Loc X.env.scope x ∧ (X.fn x = true ∨ X.env.scope.names.lookup x = some .local) := by
  unfold L2.Loc
  rw [g.sc, g.fn]
  unfold locB at h
  split at h
  · exact ⟨.inl (by assumption), .inr (by assumption)⟩
  · exact ⟨.inr (by assumption), .inl h⟩
  · cases h
theorem Gd.nopass (g : Gd cs cl kk k X W xa) : PassesOwn (model X.prog X.w) X.A X.env X.xe := g.ps
/-- nothing is wished of an exception: none may come -/
abbrev W0 : WX := fun _ _ _ _ => False
theorem takes0 {X : Cx} : L2N.Takes X W0 := fun _ _ ⟨_, _, _, _, _, _, _, _, _, _, _, _, _, _, _, _, w⟩ => w.elim
/-- within a comprehension -/
theorem Gd.blk (g : Gd cs cl kk k X W xa) (hk : k.hot = false) (scope : Scope) (s : Shared) (H : Hp) (C : Addr) (cells : List (Str × Addr)) (fp : List Addr) : Gd cs cl kk (k.blk scope) (X.blk s H scope (compEnvC scope cells C X.env) fp) W0 xa :=
  ⟨g.hN, g.nd, by
    show relS scope X.env.scope = relS scope k.sc
    rw [g.sc], rfl, g.calm, g.guards, g.room, g.roomH, takes0, PassesOwn.never, g.xn, fun a C d z => (by rw [g.xn hk] at z; cases z), g.xs, g.fnh, g.fns, g.kfs, g.two, g.xt, g.blt, g.cst⟩
end
abbrev ky (X : Cx) (xa : Option (Addr × Addr × Addr)) : Ky := ⟨X.K, xa⟩
structure Snd (X : Cx) (W : WX) (xa : Option (Addr × Addr × Addr)) (e : Expr) (f : Envr → Sto → Res Vl) : Prop where
  pe : PE X e (tV (ky X xa) W f)
  pt : tOk e = true → PT X e (tT (ky X xa) W f)
  pw : ∀ op vs pos, e = .BoolOp op vs pos → PW X e (tT (ky X xa) W f)
theorem Wn.tru {K : Ky} {Z : XK} {F ρ : List Addr} {H H1 : Hp} {v : Vl} {st : Sto} {Q : Bool → Hp → Prop} {ρ1 : List Addr} {x : V} (h : Wn K Z F relB ρ H (tst (.ok v st)) Q) (n : Nx ρ H ρ1 H1) (s : SR K H1 ρ1 F st) (r : RV K H1 F ρ1 x v) :
    ∃ b, TruV K x H1 b ∧ Ev.tru v st = some b ∧ Q b H1 := by
  unfold tst at h
  rw [bnd_ok] at h
  cases e : Ev.tru v st with
  | none => rw [e] at h; exact h.elim
  | some b =>
    rw [e] at h
    unfold Ev.tru at e
    obtain ⟨d, e1, e2⟩ := Option.bind_eq_some_iff.mp e
    exact ⟨b, tru_of (RV.ro s r e1) e2, rfl, h ρ1 b H1 n s rfl⟩
theorem snd_plain {X : Cx} {W : WX} {xa : Option (Addr × Addr × Addr)} {e : Expr} {f : Envr → Sto → Res Vl} (h : PE X e (tV (ky X xa) W f)) (p : plainT e = true) : Snd X W xa e f := by
  refine ⟨h, fun _ => PT.weak (pt_truth h (truePlain p X.env)) ?_, fun op vs pos z => ?_⟩
  · rintro σ H Q ⟨ρ, F, st, env, s, er, w⟩
    refine ⟨ρ, F, st, env, s, er, ?_⟩
    unfold tst at w
    refine w.bnd fun v st1 e1 w ρ1 x H1 n1 s1 r1 => ?_
    obtain ⟨b, h1, h2, h3⟩ := Wn.tru (show Wn (ky X xa) _ F relB ρ H (tst (.ok v st1)) Q from w) n1 s1 r1
    exact ⟨b, h1, h3⟩
  · subst z
    simp [plainT] at p
end Ev
end
section
set_option maxRecDepth 10000
namespace Ev
open PySem PySem.Spec PyProof.Rows L2
section
variable {cs : List D} {cl : Nat → List Vl → Sto → Res Vl} {kk : Nat} {k : Ck} {X : Cx} {W : WX} {xa : Option (Addr × Addr × Addr)}

/-! ### readings of what has parts -/
/-- two parts, then a step by data -/
theorem rd2 {K : Ky} {fa fb : Envr → Sto → Res Vl} {g : D → D → Option D} {r : R2} (hr : ∀ B x y H Q a b c, Ro K H B x a → Ro K H B y b → g a b = some c → (∀ z H', New K H B z c H' → Q z H') → r x y H Q)
    {σ : L2.St} {H : Hp} {Q : VK} (h : tV K W (fun env st => (fa env st).bnd fun x st1 => (fb env st1).bnd fun y st2 => (asD x st2).bnd fun x' _ => (asD y st2).bnd fun y' _ => lift (g x' y') st2) σ H Q) : tOp r (tV K W fa) (tV K W fb) σ H Q := by
  obtain ⟨ρ, F, st, env, s, er, w⟩ := h
  refine ⟨ρ, F, st, env, s, er, w.bnd fun x st1 e1 w ρ1 v H1 n1 s1 r1 => ?_⟩
  refine ⟨ρ1, F, st1, env, s1, er.mono n1, (w.nx n1).bnd fun y st2 e2 w ρ2 u H2 n2 s2 r2 => ?_⟩
  obtain ⟨x', e3, w⟩ := w.asD
  obtain ⟨y', e4, w⟩ := w.asD
  obtain ⟨c, e5, q⟩ := (w.nx n2).lift s2
  exact hr _ _ _ _ _ _ _ _ (RV.ro s2 (r1.mono n2) e3) (RV.ro s2 r2 e4) e5 q
theorem Wn.map {K : Ky} {Z : XK} {F ρ : List Addr} {H : Hp} {α : Type} {rel : Hp → List Addr → V → α → Prop} {r : Res α} {Q Q' : V → Hp → Prop} (h : Wn K Z F rel ρ H r Q) (q : ∀ x H, Q x H → Q' x H) : Wn K Z F rel ρ H r Q' := by
  cases r with
  | ok v st => exact fun ρ' x H' n s rr => q _ _ (h ρ' x H' n s rr)
  | ex c fs st => exact h
  | no => exact h
/-- a test's first part -/
theorem tst_bnd {K : Ky} {Z : XK} {F ρ : List Addr} {H : Hp} {δ γ : Type} {rel' : Hp → List Addr → δ → γ → Prop} {Q' : δ → Hp → Prop} {r : Res γ} {f : γ → Sto → Res Vl} {Q : Bool → Hp → Prop} (h : Wn K Z F relB ρ H (tst (r.bnd f)) Q)
    (q : ∀ v st, r = .ok v st → Wn K Z F relB ρ H (tst (f v st)) Q → ∀ ρ' x H', Nx ρ H ρ' H' → SR K H' ρ' F st → rel' H' ρ' x v → Q' x H') : Wn K Z F rel' ρ H r Q' := by
  cases r with
  | ok v st => exact q v st rfl h
  | ex c fs st => exact h
  | no => exact h.elim
/-- .. and its own truth -/
theorem tst_tst {K : Ky} {Z : XK} {F ρ : List Addr} {H : Hp} {r : Res Vl} {f : Vl → Sto → Res Vl} {Q Q' : Bool → Hp → Prop} (h : Wn K Z F relB ρ H (tst (r.bnd f)) Q)
    (q : ∀ v st, r = .ok v st → Wn K Z F relB ρ H (tst (f v st)) Q → Wn K Z F relB ρ H (tst (.ok v st)) Q') : Wn K Z F relB ρ H (tst r) Q' := by
  cases r with
  | ok v st => exact q v st rfl h
  | ex c fs st => exact h
  | no => exact h.elim
theorem bnd_tst {K : Ky} {Z : XK} {F ρ : List Addr} {H : Hp} {α β : Type} {rel : Hp → List Addr → β → α → Prop} {Q : β → Hp → Prop} {r : Res Vl} {f : Vl → Sto → Res α} {Q' : Bool → Hp → Prop} (h : Wn K Z F rel ρ H (r.bnd f) Q)
    (q : ∀ v st, r = .ok v st → Wn K Z F rel ρ H (f v st) Q → Wn K Z F relB ρ H (tst (.ok v st)) Q') : Wn K Z F relB ρ H (tst r) Q' := by
  cases r with
  | ok v st => exact q v st rfl h
  | ex c fs st => exact h
  | no => exact h.elim
theorem tst_ok {K : Ky} {Z : XK} {F ρ : List Addr} {H : Hp} {v : Vl} {st : Sto} {b : Bool} {Q : Bool → Hp → Prop} (e : tru v st = some b) (h : Wn K Z F relB ρ H (tst (.ok v st)) Q) : Wn K Z F relB ρ H (.ok b st) Q := by
  unfold tst at h
  rw [bnd_ok, e] at h
  exact h
theorem tst_of {v : Vl} {st : Sto} {b : Bool} (e : tru v st = some b) : tst (.ok v st) = .ok b st := by
  unfold tst
  rw [bnd_ok, e]

theorem snd_var {e : Expr} {i : Nat} (g : Gd cs cl kk k X W xa) (h : ckE k (.var i) e = true) : Snd X W xa e (evE cs cl (.var i)) := by
  unfold ckE at h
  split at h
  · rename_i x p
    simp only [Bool.and_eq_true, decide_eq_true_eq] at h
    obtain ⟨⟨h1, h2⟩, h3⟩ := h
    unfold dbg at h3
    simp only [Bool.and_eq_true, Bool.not_eq_true'] at h3
    refine snd_plain (PE.weak (pe_var (i := i) (by rw [g.hN]; exact h1) (g.vis h2) h3.1.1 h3.1.2) ?_) rfl
    rintro σ H Q ⟨ρ, F, st, env, s, er, w⟩
    simp only [evE] at w
    split at w
    · rename_i v e1
      obtain ⟨u, e2, r⟩ := er.get e1
      exact ⟨u, e2, w.fin s r⟩
    · exact w.elim
  · cases h
theorem snd_const {e : Expr} {c : E} {v : V} {x : D} (hp : PE X e (tC v)) (hr : ∀ H B, Rp X.K H B v x) (he : ∀ env st, evE cs cl c env st = .ok (.d x) st) (p : plainT e = true) : Snd X W xa e (evE cs cl c) := by
  refine snd_plain (PE.weak hp ?_) p
  rintro σ H Q ⟨ρ, F, st, env, s, er, w⟩
  rw [he] at w
  exact w.fin s (hr H _)
theorem snd_bin {e : Expr} {op : Op} {a b : E} (ha : ∀ e, ckE k a e = true → Snd X W xa e (evE cs cl a)) (hb : ∀ e, ckE k b e = true → Snd X W xa e (evE cs cl b)) (h : ckE k (.bin op a b) e = true) : Snd X W xa e (evE cs cl (.bin op a b)) := by
  unfold ckE at h
  split at h
  · simp only [Bool.and_eq_true, decide_eq_true_eq] at h
    obtain ⟨⟨rfl, h1⟩, h2⟩ := h
    refine snd_plain (PE.weak (pe_op (op_bin op) (ha _ h1).pe (hb _ h2).pe) fun σ H Q w => ?_) rfl
    have w' : tV (ky X xa) W (fun env st => (evE cs cl a env st).bnd fun x st1 => (evE cs cl b env st1).bnd fun y st2 => (asD x st2).bnd fun x' _ => (asD y st2).bnd fun y' _ => lift (binD op x' y') st2) σ H Q := by
      simpa only [tV, evE] using w
    exact rd2 (r := rBin X.K op) (fun B x y H Q a b c h1 h2 h3 h4 => ⟨B, a, b, c, h1, h2, h3, fun z H' f => h4 z H' f.new⟩) w'
  · cases h
theorem snd_sub {e : Expr} {a b : E} (ha : ∀ e, ckE k a e = true → Snd X W xa e (evE cs cl a)) (hb : ∀ e, ckE k b e = true → Snd X W xa e (evE cs cl b)) (h : ckE k (.sub a b) e = true) : Snd X W xa e (evE cs cl (.sub a b)) := by
  unfold ckE at h
  split at h
  · simp only [Bool.and_eq_true] at h
    obtain ⟨⟨h1, h2⟩, h3⟩ := h
    refine snd_plain (PE.weak (pe_ix ix_sub (ha _ h1).pe (hb _ h2).pe (ixPlain h3)) fun σ H Q w => ?_) rfl
    have w' : tV (ky X xa) W (fun env st => (evE cs cl a env st).bnd fun x st1 => (evE cs cl b env st1).bnd fun y st2 => (asD x st2).bnd fun x' _ => (asD y st2).bnd fun y' _ => lift (subD x' y') st2) σ H Q := by
      simpa only [tV, evE] using w
    exact rd2 (r := rSub X.K) (fun B x y H Q a b c h1 h2 h3 h4 => ⟨B, a, b, c, h1, h2, h3, fun z r => h4 z H (.old r)⟩) w'
  · cases h
theorem snd_neg {e : Expr} {a : E} (ha : ∀ e, ckE k a e = true → Snd X W xa e (evE cs cl a)) (h : ckE k (.neg a) e = true) : Snd X W xa e (evE cs cl (.neg a)) := by
  unfold ckE at h
  split at h
  · refine snd_plain (PE.weak (pe_un un_neg (ha _ h).pe) ?_) rfl
    rintro σ H Q ⟨ρ, F, st, env, s, er, w⟩
    simp only [evE] at w
    refine ⟨ρ, F, st, env, s, er, w.bnd fun x st1 e1 w ρ1 v H1 n1 s1 r1 => ?_⟩
    split at w
    · cases r1
      exact ⟨_, rfl, (w.nx n1).fin s1 (.int _)⟩
    · exact w.elim
  · cases h
theorem cmp_rd {K : Ky} {fa fb : Envr → Sto → Res Vl} {op : Cp} {σ : L2.St} {H : Hp} {Q : VK}
    (h : tV K W (fun env st => (fa env st).bnd fun x st1 => (fb env st1).bnd fun y st2 => (asD x st2).bnd fun x' _ => (asD y st2).bnd fun y' _ => lift ((cmpD op x' y').map .bool) st2) σ H Q) : tOp (rCmp K op) (tV K W fa) (tV K W fb) σ H Q := by
  refine rd2 (g := fun a b => (cmpD op a b).map .bool) (r := rCmp K op) (fun B x y H Q a b c h1 h2 h3 h4 => ?_) h
  obtain ⟨t, e, rfl⟩ := Option.map_eq_some_iff.mp h3
  exact ⟨B, a, b, t, h1, h2, e, h4 _ _ (.old (.bl t))⟩
theorem snd_cmp {e : Expr} {op : Cp} {a b : E} (g : Gd cs cl kk k X W xa) (ha : ∀ e, ckE k a e = true → Snd X W xa e (evE cs cl a)) (hb : ∀ e, ckE k b e = true → Snd X W xa e (evE cs cl b)) (h : ckE k (.cmp op a b) e = true) : Snd X W xa e (evE cs cl (.cmp op a b)) := by
  have hu : X.A.units + 64 < cLine := by have := g.units; omega
  unfold ckE at h
  split at h
  · simp only [Bool.and_eq_true, decide_eq_true_eq] at h
    obtain ⟨⟨⟨rfl, h1⟩, h2⟩, h3⟩ := h
    refine ⟨PE.weak (pe_cmpR (op_cmp hu op) (ha _ h1).pe (hb _ h2).pe (inPlain h3 _)) fun σ H Q w => ?_, fun _ => PT.weak (pt_cmpR (op_cmp hu op) (ha _ h1).pe (hb _ h2).pe (inPlain h3 _)) fun σ H Q w => ?_, fun _ _ _ z => by cases z⟩
    · exact cmp_rd (by simpa only [tV, evE] using w)
    · obtain ⟨ρ, F, st, env, s, er, w⟩ := w
      simp only [evE] at w
      refine cmp_rd ⟨ρ, F, st, env, s, er, ?_⟩
      have key : ∀ (r : Res Vl) (f : Vl → Sto → Res Vl) (g : Vl → Sto → Res Vl) (Q2 : V → Hp → Prop), (∀ v st, Wn (ky X xa) (fun c d => W c d σ) F relB ρ H (tst (f v st)) Q → Wn (ky X xa) (fun c d => W c d σ) F (relV (ky X xa) F) ρ H (g v st) Q2) →
          Wn (ky X xa) (fun c d => W c d σ) F relB ρ H (tst (r.bnd f)) Q → Wn (ky X xa) (fun c d => W c d σ) F (relV (ky X xa) F) ρ H (r.bnd g) Q2 := fun r f g Q2 hq hw => by
        cases r with
        | ok v st => exact hq v st hw
        | ex c fs st => exact hw
        | no => exact hw.elim
      refine key _ _ _ _ (fun x st1 w => key _ _ _ _ (fun y st2 w => ?_) w) w
      unfold asD at w ⊢
      cases e3 : rd st2 x with
      | none => rw [e3] at w; exact w.elim
      | some x' =>
        rw [e3] at w
        simp only [bnd_ok] at w ⊢
        cases e4 : rd st2 y with
        | none => rw [e4] at w; exact w.elim
        | some y' =>
          rw [e4] at w
          simp only [bnd_ok] at w ⊢
          cases e5 : cmpD op x' y' with
          | none => rw [e5] at w; exact w.elim
          | some t =>
            rw [e5] at w
            have w2 : Wn (ky X xa) (fun c d => W c d σ) F relB ρ H (.ok t st2) Q := w
            intro ρ' v H' n' s' r'
            cases r'
            exact ⟨t, rfl, w2 ρ' t H' n' s' rfl⟩
  · cases h
theorem snd_not {e : Expr} {a : E} (ha : ∀ e, ckE k a e = true → Snd X W xa e (evE cs cl a)) (h : ckE k (.nt a) e = true) : Snd X W xa e (evE cs cl (.nt a)) := by
  unfold ckE at h
  split at h
  · simp only [Bool.and_eq_true] at h
    obtain ⟨h1, h2⟩ := h
    refine ⟨PE.weak (pe_notT (ha _ h1).pe) ?_, fun _ => PT.weak (pt_not ((ha _ h1).pt h2)) ?_, fun _ _ _ z => by cases z⟩
    · rintro σ H Q ⟨ρ, F, st, env, s, er, w⟩
      simp only [evE] at w
      refine ⟨ρ, F, st, env, s, er, w.bnd fun x st1 e1 w ρ1 v H1 n1 s1 r1 => ?_⟩
      split at w
      · rename_i b e2
        obtain ⟨d, e3, e4⟩ := Option.bind_eq_some_iff.mp e2
        exact ⟨b, tru_of (RV.ro s1 r1 e3) e4, (w.nx n1).fin s1 (.bl _)⟩
      · exact w.elim
    · rintro σ H Q ⟨ρ, F, st, env, s, er, w⟩
      simp only [evE] at w
      refine ⟨ρ, F, st, env, s, er, tst_tst w fun x st1 e1 w => ?_⟩
      split at w
      · rename_i b e2
        rw [tst_of e2]
        intro ρ1 v H1 n1 s1 r1
        cases r1
        exact w ρ1 _ H1 n1 s1 rfl
      · exact w.elim
  · cases h
/-- what and, or ask: the first part, then by its truth -/
theorem bool_rd {K : Ky} {fa : Envr → Sto → Res Vl} {f1 f2 : Vl → Envr → Sto → Res Vl} {σ : L2.St} {H : Hp} {Q : VK} {R : V → Hp → Prop}
    (h : tV K W (fun env st => (fa env st).bnd fun x st1 => sel (tru x st1) (f1 x env st1) (f2 x env st1)) σ H Q)
    (hR : ∀ F ρ ρ1 st1 env H1 x v, Nx ρ H ρ1 H1 → SR K H1 ρ1 F st1 → ER K H1 F ρ1 σ env → RV K H1 F ρ1 v x → ∀ b, TruV K v H1 b → (b = true → Wn K (fun c d => W c d σ) F (relV K F) ρ1 H1 (f1 x env st1) Q) → (b = false → Wn K (fun c d => W c d σ) F (relV K F) ρ1 H1 (f2 x env st1) Q) → R v H1) : tV K W fa σ H R := by
  obtain ⟨ρ, F, st, env, s, er, w⟩ := h
  refine ⟨ρ, F, st, env, s, er, w.bnd fun x st1 e1 w ρ1 v H1 n1 s1 r1 => ?_⟩
  cases e2 : tru x st1 with
  | none => rw [e2] at w; exact w.elim
  | some b =>
    rw [e2] at w
    obtain ⟨d, e3, e4⟩ := Option.bind_eq_some_iff.mp e2
    refine hR F ρ ρ1 st1 env H1 x v n1 s1 (er.mono n1) r1 b (tru_of (RV.ro s1 r1 e3) e4) (fun z => ?_) (fun z => ?_)
    · subst z; exact w.nx n1
    · subst z; exact w.nx n1
theorem and_tst {fa fb : Envr → Sto → Res Vl} {K : Ky} {σ : L2.St} {H : Hp} {Q : Bool → Hp → Prop}
    (h : tT K W (fun env st => (fa env st).bnd fun x st1 => sel (tru x st1) (fb env st1) (.ok x st1)) σ H Q) : tAnd (tT K W fa) (tT K W fb) σ H Q := by
  obtain ⟨ρ, F, st, env, s, er, w⟩ := h
  refine ⟨ρ, F, st, env, s, er, tst_tst w fun x st1 e1 w => ?_⟩
  cases e2 : tru x st1 with
  | none => rw [e2] at w; exact w.elim
  | some b =>
    rw [e2] at w
    rw [tst_of e2]
    intro ρ1 v H1 n1 s1 r1
    cases r1
    cases b with
    | true => exact ⟨ρ1, F, st1, env, s1, er.mono n1, w.nx n1⟩
    | false =>
      have w2 := tst_ok e2 w
      exact w2 ρ1 _ H1 n1 s1 rfl
theorem or_tst {fa fb : Envr → Sto → Res Vl} {K : Ky} {σ : L2.St} {H : Hp} {Q : Bool → Hp → Prop}
    (h : tT K W (fun env st => (fa env st).bnd fun x st1 => sel (tru x st1) (.ok x st1) (fb env st1)) σ H Q) : tOr (tT K W fa) (tT K W fb) σ H Q := by
  obtain ⟨ρ, F, st, env, s, er, w⟩ := h
  refine ⟨ρ, F, st, env, s, er, tst_tst w fun x st1 e1 w => ?_⟩
  cases e2 : tru x st1 with
  | none => rw [e2] at w; exact w.elim
  | some b =>
    rw [e2] at w
    rw [tst_of e2]
    intro ρ1 v H1 n1 s1 r1
    cases r1
    cases b with
    | false => exact ⟨ρ1, F, st1, env, s1, er.mono n1, w.nx n1⟩
    | true =>
      have w2 := tst_ok e2 w
      exact w2 ρ1 _ H1 n1 s1 rfl
theorem and_val {fa fb : Envr → Sto → Res Vl} {K : Ky} {σ : L2.St} {H : Hp} {Q : VK}
    (h : tV K W (fun env st => (fa env st).bnd fun x st1 => sel (tru x st1) (fb env st1) (.ok x st1)) σ H Q) : tAndT K (tV K W fa) (tV K W fb) σ H Q := by
  refine bool_rd (f1 := fun _ env st => fb env st) (f2 := fun x _ st => .ok x st) h fun F ρ ρ1 st1 env H1 x v n s er r b ht h1 h2 => ⟨b, ht, ?_⟩
  cases b with
  | true => exact ⟨ρ1, F, st1, env, s, er, h1 rfl⟩
  | false => exact (h2 rfl).fin s r
theorem or_val {fa fb : Envr → Sto → Res Vl} {K : Ky} {σ : L2.St} {H : Hp} {Q : VK}
    (h : tV K W (fun env st => (fa env st).bnd fun x st1 => sel (tru x st1) (.ok x st1) (fb env st1)) σ H Q) : tOrT K (tV K W fa) (tV K W fb) σ H Q := by
  refine bool_rd (f2 := fun _ env st => fb env st) (f1 := fun x _ st => .ok x st) h fun F ρ ρ1 st1 env H1 x v n s er r b ht h1 h2 => ⟨b, ht, ?_⟩
  cases b with
  | false => exact ⟨ρ1, F, st1, env, s, er, h2 rfl⟩
  | true => exact (h1 rfl).fin s r
theorem snd_and {e : Expr} {a b : E} (ha : ∀ e, ckE k a e = true → Snd X W xa e (evE cs cl a)) (hb : ∀ e, ckE k b e = true → Snd X W xa e (evE cs cl b)) (h : ckE k (.and a b) e = true) : Snd X W xa e (evE cs cl (.and a b)) := by
  unfold ckE at h
  split at h
  · simp only [Bool.and_eq_true] at h
    obtain ⟨⟨⟨h1, h2⟩, h3⟩, h4⟩ := h
    have pw : ∀ pos, PW X _ _ := fun pos => pw_and (pos := pos) ((ha _ h1).pt h2) (pw_and1 ((hb _ h3).pt h4))
    refine ⟨PE.weak (pe_andT (ha _ h1).pe (pe_one (hb _ h3).pe)) fun σ H Q w => and_val (by simpa only [tV, evE] using w), fun _ => PT.weak (pw _).pt fun σ H Q w => and_tst (by simpa only [tT, evE] using w), fun _ _ _ _ => PW.weak (pw _) fun σ H Q w => and_tst (by simpa only [tT, evE] using w)⟩
  · simp only [Bool.and_eq_true] at h
    obtain ⟨⟨h1, h2⟩, h3⟩ := h
    have pw : PW X _ _ := pw_and ((ha _ h1).pt h2) ((hb _ h3).pw _ _ _ rfl)
    refine ⟨PE.weak (pe_andT (ha _ h1).pe (hb _ h3).pe) fun σ H Q w => and_val (by simpa only [tV, evE] using w), fun _ => PT.weak pw.pt fun σ H Q w => and_tst (by simpa only [tT, evE] using w), fun _ _ _ _ => PW.weak pw fun σ H Q w => and_tst (by simpa only [tT, evE] using w)⟩
  · cases h
theorem snd_or {e : Expr} {a b : E} (ha : ∀ e, ckE k a e = true → Snd X W xa e (evE cs cl a)) (hb : ∀ e, ckE k b e = true → Snd X W xa e (evE cs cl b)) (h : ckE k (.or a b) e = true) : Snd X W xa e (evE cs cl (.or a b)) := by
  unfold ckE at h
  split at h
  · simp only [Bool.and_eq_true] at h
    obtain ⟨⟨⟨h1, h2⟩, h3⟩, h4⟩ := h
    have pw : ∀ pos, PW X _ _ := fun pos => pw_or (pos := pos) ((ha _ h1).pt h2) (pw_or1 ((hb _ h3).pt h4))
    refine ⟨PE.weak (pe_orT (ha _ h1).pe (pe_one (hb _ h3).pe)) fun σ H Q w => or_val (by simpa only [tV, evE] using w), fun _ => PT.weak (pw _).pt fun σ H Q w => or_tst (by simpa only [tT, evE] using w), fun _ _ _ _ => PW.weak (pw _) fun σ H Q w => or_tst (by simpa only [tT, evE] using w)⟩
  · simp only [Bool.and_eq_true] at h
    obtain ⟨⟨h1, h2⟩, h3⟩ := h
    have pw : PW X _ _ := pw_or ((ha _ h1).pt h2) ((hb _ h3).pw _ _ _ rfl)
    refine ⟨PE.weak (pe_orT (ha _ h1).pe (hb _ h3).pe) fun σ H Q w => or_val (by simpa only [tV, evE] using w), fun _ => PT.weak pw.pt fun σ H Q w => or_tst (by simpa only [tT, evE] using w), fun _ _ _ _ => PW.weak pw fun σ H Q w => or_tst (by simpa only [tT, evE] using w)⟩
  · cases h
theorem snd_ifx {e : Expr} {c a b : E} (hc : ∀ e, ckE k c e = true → Snd X W xa e (evE cs cl c)) (ha : ∀ e, ckE k a e = true → Snd X W xa e (evE cs cl a)) (hb : ∀ e, ckE k b e = true → Snd X W xa e (evE cs cl b)) (h : ckE k (.ifx c a b) e = true) : Snd X W xa e (evE cs cl (.ifx c a b)) := by
  unfold ckE at h
  split at h
  · simp only [Bool.and_eq_true] at h
    obtain ⟨⟨⟨h1, h2⟩, h3⟩, h4⟩ := h
    refine ⟨PE.weak (pe_ifExp ((hc _ h1).pt h2) (ha _ h3).pe (hb _ h4).pe) ?_, fun z => (by cases z), fun _ _ _ z => (by cases z)⟩
    rintro σ H Q ⟨ρ, F, st, env, s, er, w⟩
    simp only [evE] at w
    refine ⟨ρ, F, st, env, s, er, bnd_tst w fun x st1 e1 w => ?_⟩
    cases e2 : tru x st1 with
    | none => rw [e2] at w; exact w.elim
    | some t =>
      rw [e2] at w
      rw [tst_of e2]
      intro ρ1 v H1 n1 s1 r1
      cases r1
      cases t with
      | true => exact ⟨ρ1, F, st1, env, s1, er.mono n1, w.nx n1⟩
      | false => exact ⟨ρ1, F, st1, env, s1, er.mono n1, w.nx n1⟩
  · cases h
end
end Ev
end
section
set_option maxRecDepth 10000
namespace Ev
open PySem PySem.Spec PyProof.Rows L2
section
variable {K : PySem.W.Frag} {H H' : Hp} {ρ ρ' F B : List Addr} {p : Addr} {o : HO}
mutual
/-- what may be written is written: data stays -/
theorem Rp.upd (hp : p ∈ B) (hm : ∀ xs, ¬ Rd H p (.tup xs)) : ∀ {v : V} {x : D}, Rp K H B v x → Rp K (L2.upd H p o) B v x
  | _, _, .non => .non
  | _, _, .bl b => .bl b
  | _, _, .int i => .int i
  | _, _, .str x => .str x
  | _, _, .lst (a := a) h r => by
    refine .lst ?_ (RpA.upd hp hm r)
    rcases h with ⟨h, ha⟩ | h
    · have ne : a ≠ p := fun e => ha (by rw [e]; exact hp)
      refine .inl ⟨?_, ha⟩
      rcases h with h | ⟨ob, h⟩
      · exact .inl (by rw [upd_ne ne]; exact h)
      · exact .inr ⟨ob, by rw [upd_ne ne]; exact h⟩
    · exact .inr h
  | _, _, .tup (a := a) (xs := xs) h r => by
    refine .tup ?_ (RpA.upd hp hm r)
    rcases h with h | h
    · have ne : a ≠ p := fun e => hm xs (by rw [← e]; exact h)
      refine .inl ?_
      rcases h with h | ⟨ob, h⟩
      · exact .inl (by rw [upd_ne ne]; exact h)
      · exact .inr ⟨ob, by rw [upd_ne ne]; exact h⟩
    · exact .inr h
theorem RpA.upd (hp : p ∈ B) (hm : ∀ xs, ¬ Rd H p (.tup xs)) : ∀ {vs : List V} {xs : List D}, RpA K H B vs xs → RpA K (L2.upd H p o) B vs xs
  | _, _, .nil => .nil
  | _, _, .cons h r => .cons (Rp.upd hp hm h) (RpA.upd hp hm r)
end
theorem Kvs.upd (hp : p ∈ B) (hm : ∀ xs, ¬ Rd H p (.tup xs)) : ∀ {vs : List (Key × V)} {xs : List (Key × D)}, Kvs K H B vs xs → Kvs K (L2.upd H p o) B vs xs
  | _, _, .nil => .nil
  | _, _, .cons h r => .cons (h.upd hp hm) (Kvs.upd hp hm r)
theorem OR.sub {B' : List Addr} {a : Addr} (s : ∀ x ∈ B', x ∈ B) : ∀ {ob : Ob}, OR K H B a ob → OR K H B' a ob
  | .lst _, ⟨xs, h, r⟩ => ⟨xs, h, r.sub s⟩
  | .dic _, ⟨xs, h, r⟩ => ⟨xs, h, r.sub s⟩
theorem OR.upd {a : Addr} (hp : p ∈ B) (hm : ∀ xs, ¬ Rd H p (.tup xs)) (ne : a ≠ p) : ∀ {ob : Ob}, OR K H B a ob → OR K (L2.upd H p o) B a ob
  | .lst _, ⟨xs, h, r⟩ => ⟨xs, by rw [upd_ne ne]; exact h, r.upd hp hm⟩
  | .dic _, ⟨xs, h, r⟩ => ⟨xs, by rw [upd_ne ne]; exact h, r.upd hp hm⟩
theorem mem_shift {a : Addr} : a ∈ ρ ++ p :: F ↔ a ∈ (ρ ++ [p]) ++ F := by simp
/-- forget that p is being made -/
theorem SR.dropF {st : Sto} (s : SR K H ρ (p :: F) st) : SR K H ρ F st :=
  ⟨s.len, s.nd, fun n ob a h1 h2 => OR.sub (fun x hx => by
    rcases List.mem_append.mp hx with z | z
    · exact List.mem_append_left _ z
    · exact List.mem_append_right _ (List.mem_cons_of_mem _ z)) (s.obj n ob a h1 h2), fun a ha => s.liveF a (List.mem_cons_of_mem _ ha)⟩
theorem OR.more {a : Addr} (hp : H p = none) : ∀ {ob : Ob}, OR K H B a ob → OR K H (p :: B) a ob
  | .lst _, ⟨xs, h, r⟩ => ⟨xs, h, r.more hp⟩
  | .dic _, ⟨xs, h, r⟩ => ⟨xs, h, r.more hp⟩
/-- a new thing that is being made -/
theorem SR.addF {st : Sto} (s : SR K H ρ F st) (hp : H p = none) : SR K (L2.upd H p o) ρ (p :: F) st := by
  have n := s.nxNew (o := o) hp
  refine ⟨s.len, s.nd, fun k ob a h1 h2 => ?_, fun a ha => ?_⟩
  · have q := OR.more hp (s.obj k ob a h1 h2)
    have q2 : OR K H (ρ ++ (p :: F)) a ob := OR.sub (fun x hx => by
      rcases List.mem_append.mp hx with z | z
      · exact List.mem_cons_of_mem _ (List.mem_append_left _ z)
      · rcases List.mem_cons.mp z with z | z
        · rw [z]; exact List.mem_cons_self
        · exact List.mem_cons_of_mem _ (List.mem_append_right _ z)) q
    exact OR.mono' (st := st) n (fun u => upd_new hp) q2
  · rcases List.mem_cons.mp ha with z | z
    · rw [z]; exact ⟨o, upd_same⟩
    · obtain ⟨u, h⟩ := s.liveF a z
      exact ⟨u, upd_new hp h⟩
/-- .. is changed -/
theorem SR.updF {st : Sto} (s : SR K H ρ (p :: F) st) (hn : p ∉ ρ) (hm : ∀ xs, ¬ Rd H p (.tup xs)) : SR K (L2.upd H p o) ρ (p :: F) st := by
  refine ⟨s.len, s.nd, fun k ob a h1 h2 => OR.upd (by simp) hm (fun e => hn (by rw [← e]; exact List.mem_of_getElem? h2)) (s.obj k ob a h1 h2), fun a ha => ?_⟩
  by_cases e : a = p
  · rw [e]; exact ⟨o, upd_same⟩
  · obtain ⟨u, h⟩ := s.liveF a ha
    exact ⟨u, by rw [upd_ne e]; exact h⟩
/-- .. becomes an object of the store -/
theorem SR.adopt {st : Sto} {ob : Ob} (s : SR K H ρ (p :: F) st) (hn : p ∉ ρ) (hm : ∀ xs, ¬ Rd H p (.tup xs)) (h : OR K (L2.upd H p o) ((ρ ++ [p]) ++ F) p ob) : SR K (L2.upd H p o) (ρ ++ [p]) F (st ++ [ob]) := by
  have s2 := s.updF (o := o) hn hm
  refine ⟨by simp [s.len], ?_, fun k u a h1 h2 => ?_, fun a ha => s2.liveF a (List.mem_cons_of_mem _ ha)⟩
  · rw [List.nodup_append]
    refine ⟨s.nd, by simp, fun a ha b hb => ?_⟩
    rw [List.mem_singleton.mp hb]
    rintro rfl
    exact hn ha
  · by_cases hk : k < ρ.length
    · rw [List.getElem?_append_left (by rw [← s.len]; exact hk)] at h1
      rw [List.getElem?_append_left hk] at h2
      exact OR.sub (fun x hx => mem_shift.mpr hx) (s2.obj k u a h1 h2)
    · have hk2 : k < (ρ ++ [p]).length := (List.getElem?_eq_some_iff.mp h2).1
      have e : k = ρ.length := by simp at hk2; omega
      subst e
      rw [List.getElem?_append_right (by rw [s.len]; exact Nat.le_refl _), s.len, Nat.sub_self] at h1
      rw [List.getElem?_append_right (Nat.le_refl _), Nat.sub_self] at h2
      cases h1
      cases h2
      exact h
theorem Nx.adopt (n : Nx ρ (L2.upd H p o) ρ' H') (hp : H p = none) (hm : ∀ xs, ¬ Rd H' p (.tup xs)) {o' : HO} : Nx ρ H (ρ' ++ [p]) (L2.upd H' p o') := by
  obtain ⟨m, e, f⟩ := n.ext
  refine ⟨⟨m ++ [p], by rw [e, List.append_assoc], fun a ha => ?_⟩, fun a u h ha => ?_, fun a xs h => ?_, fun a ha => ?_⟩
  · rcases List.mem_append.mp ha with z | z
    · have q := f a z
      by_cases e : a = p
      · rw [e]; exact hp
      · rw [upd_ne e] at q; exact q
    · rw [List.mem_singleton.mp z]; exact hp
  · have ne : a ≠ p := ne_of_none h hp
    rw [upd_ne ne]
    exact n.keep a u (upd_new hp h) ha
  · have q := n.tups a xs (rd_new hp h)
    have ne : a ≠ p := fun e => hm xs (by rw [← e]; exact q)
    rcases q with q | ⟨ob, q⟩
    · exact .inl (by rw [upd_ne ne]; exact q)
    · exact .inr ⟨ob, by rw [upd_ne ne]; exact q⟩
  · by_cases e2 : a = p
    · rw [e2]; exact ⟨o', upd_same⟩
    · rw [upd_ne e2]
      rcases List.mem_append.mp ha with z | z
      · exact n.live a z
      · exact absurd (List.mem_singleton.mp z) e2
theorem RVs.dAll {K : Ky} : ∀ {vs : List V} {xs : List Vl} {ds : List D}, RVs K H F ρ vs xs → Ev.dAll xs = some ds → RpA K H (ρ ++ F) vs ds
  | _, _, _, .nil, e => by cases e; exact .nil
  | _, .d y :: r, _, .cons h t, e => by
    unfold Ev.dAll at e
    obtain ⟨m, e1, rfl⟩ := Option.map_eq_some_iff.mp e
    exact .cons h (RVs.dAll t e1)
  | _, .r _ :: _, _, .cons _ _, e => by cases e
  | _, .x _ _ :: _, _, .cons _ _, e => by cases e
theorem RVs.asDs {K : Ky} {st : Sto} (s : SR K H ρ F st) : ∀ {vs : List V} {xs : List Vl} {ds : List D} {st' : Sto}, RVs K H F ρ vs xs → Ev.asDs xs st = .ok ds st' → RoA K H (ρ ++ F) vs ds
  | _, _, _, _, .nil, e => by cases e; exact .nil
  | _, x :: xs, _, _, .cons h t, e => by
    unfold Ev.asDs Ev.asD at e
    cases e1 : rd st x with
    | none => rw [e1] at e; cases e
    | some d =>
      rw [e1] at e
      simp only [bnd_ok] at e
      cases e2 : Ev.asDs xs st with
      | no => rw [e2] at e; cases e
      | ex c fs s2 => rw [e2] at e; cases e
      | ok ds' st2 =>
        rw [e2] at e
        cases e
        exact .cons (RV.ro s h e1) (RVs.asDs s t e2)
theorem Kvs.any {k : Key} : ∀ {vs : List (Key × V)} {xs : List (Key × D)}, Kvs K H B vs xs → (vs.any fun kv => decide (kv.1 = k)) = xs.any fun kv => decide (kv.1 = k)
  | _, _, .nil => rfl
  | _, _, .cons _ r => by simp only [List.any_cons, Kvs.any r]
theorem Kvs.map {k : Key} {v : V} {x : D} (h : Rp K H B v x) : ∀ {vs : List (Key × V)} {xs : List (Key × D)}, Kvs K H B vs xs → Kvs K H B (vs.map fun kv => if kv.1 = k then (kv.1, v) else kv) (xs.map fun kv => if kv.1 = k then (kv.1, x) else kv)
  | _, _, .nil => .nil
  | _, _, .cons (k := k') q r => by
    simp only [List.map_cons]
    by_cases e : k' = k
    · rw [if_pos e, if_pos e]; exact .cons h (Kvs.map h r)
    · rw [if_neg e, if_neg e]; exact .cons q (Kvs.map h r)
theorem Kvs.append : ∀ {vs ws : List (Key × V)} {xs ys : List (Key × D)}, Kvs K H B vs xs → Kvs K H B ws ys → Kvs K H B (vs ++ ws) (xs ++ ys)
  | _, _, _, _, .nil, s => s
  | _, _, _, _, .cons h r, s => .cons h (Kvs.append r s)
theorem Kvs.put {k : Key} {v : V} {x : D} {vs : List (Key × V)} {xs : List (Key × D)} (r : Kvs K H B vs xs) (h : Rp K H B v x) : Kvs K H B (putK vs k v) (putD xs k x) := by
  unfold putK putD
  rw [r.any]
  split
  · exact r.map h
  · exact r.append (.cons h .nil)
theorem Kvs.length : ∀ {vs : List (Key × V)} {xs : List (Key × D)}, Kvs K H B vs xs → vs.length = xs.length
  | _, _, .nil => rfl
  | _, _, .cons _ r => by simp [Kvs.length r]
theorem Kvs.get {k : Key} {x : D} : ∀ {vs : List (Key × V)} {xs : List (Key × D)}, Kvs K H B vs xs → getK xs k = some x → ∃ v, valV vs k = some v ∧ Rp K H B v x
  | _, _, .nil, e => by cases e
  | _, _, .cons (k := k') q r, e => by
    unfold getK at e
    rw [List.find?_cons] at e
    by_cases z : k' = k
    · simp [z] at e
      subst e
      exact ⟨_, valV_pos z, q⟩
    · simp only [z, decide_false] at e
      obtain ⟨v, h1, h2⟩ := Kvs.get r e
      exact ⟨v, by rw [valV_neg z]; exact h1, h2⟩
end
section
variable {cs : List D} {cl : Nat → List Vl → Sto → Res Vl} {kk : Nat} {k : Ck} {X : Cx} {W : WX} {xa : Option (Addr × Addr × Addr)}
/-- the arguments of a call or a display -/
theorem asDs_st : ∀ {vs : List Vl} {st st' : Sto} {ds : List D}, asDs vs st = .ok ds st' → st' = st
  | [], _, _, _, e => by cases e; rfl
  | v :: r, st, st', ds, e => by
    unfold asDs at e
    cases e1 : asD v st with
    | no => rw [e1] at e; cases e
    | ex c9 f9 s9 => rw [e1] at e; cases e
    | ok x s1 =>
      rw [e1, bnd_ok] at e
      cases e2 : asDs r st with
      | no => rw [e2] at e; cases e
      | ex c9 f9 s9 => rw [e2] at e; cases e
      | ok xs s2 => rw [e2, bnd_ok] at e; cases e; rfl
theorem asD_ex {v : Vl} {st : Sto} {c : Str} {fs : List (Str × D)} {s : Sto} : asD v st ≠ .ex c fs s := by
  unfold asD
  split <;> (intro z; cases z)
theorem asDs_ex : ∀ {vs : List Vl} {st : Sto} {c : Str} {fs : List (Str × D)} {s : Sto}, asDs vs st ≠ .ex c fs s
  | [], _, _, _, _ => by intro z; cases z
  | v :: r, st, c, fs, s => by
    intro e
    unfold asDs at e
    cases e1 : asD v st with
    | no => rw [e1] at e; cases e
    | ex c9 f9 s9 => exact asD_ex e1
    | ok x s1 =>
      rw [e1, bnd_ok] at e
      cases e2 : asDs r st with
      | no => rw [e2] at e; cases e
      | ex c9 f9 s9 => exact asDs_ex e2
      | ok xs s2 => rw [e2, bnd_ok] at e; cases e
theorem Wn.asDs {K : Ky} {Z : XK} {F ρ : List Addr} {H : Hp} {α β : Type} {rel : Hp → List Addr → β → α → Prop} {Q : β → Hp → Prop} {vs : List Vl} {st : Sto} {f : List D → Sto → Res α} (h : Wn K Z F rel ρ H ((Ev.asDs vs st).bnd f) Q) : ∃ ds, Ev.asDs vs st = .ok ds st ∧ Wn K Z F rel ρ H (f ds st) Q := by
  cases e : Ev.asDs vs st with
  | no => rw [e] at h; exact h.elim
  | ex c9 f9 s9 => exact (asDs_ex e).elim
  | ok ds st' =>
    rw [e] at h
    have := asDs_st e
    subst this
    exact ⟨ds, rfl, h⟩
structure SndA (X : Cx) (W : WX) (xa : Option (Addr × Addr × Addr)) (es : List Expr) (f : Envr → Sto → Res (List Vl)) : Prop where
  pa : PA X es (tVs (ky X xa) W f)
  ns : es.all noStar = true
theorem sndA_nil : SndA X W xa [] (evEs cs cl .nil) := by
  refine ⟨PA.weak pa_nil ?_, rfl⟩
  rintro σ H Q ⟨ρ, F, st, env, s, er, w⟩
  simp only [evEs] at w
  exact w.fin s .nil
theorem sndA_cons {e : Expr} {es : List Expr} {c : E} {r : Es} (h1 : Snd X W xa e (evE cs cl c)) (hs : noStar e = true) (h2 : SndA X W xa es (evEs cs cl r)) : SndA X W xa (e :: es) (evEs cs cl (.cons c r)) := by
  refine ⟨PA.weak (pa_cons h1.pe h2.pa (star1 hs es X.env)) ?_, by simp [hs, h2.ns]⟩
  rintro σ H Q ⟨ρ, F, st, env, s, er, w⟩
  simp only [evEs] at w
  refine ⟨ρ, F, st, env, s, er, w.bnd fun x st1 e1 w ρ1 v H1 n1 s1 r1 => ?_⟩
  refine ⟨ρ1, F, st1, env, s1, er.mono n1, w.bndN n1 fun xs st2 e2 w ρ2 vs H2 n2 s2 r2 => ?_⟩
  exact (w.nx (n1.trans n2)).fin s2 (.cons (r1.mono n2) r2)
theorem starAll : ∀ {es : List Expr} (h : es.all noStar = true) (env : Env), starEach es env = es.map fun e => (false, eval e env)
  | [], _, _ => rfl
  | e :: es, h, env => by
    simp only [List.all_cons, Bool.and_eq_true] at h
    rw [star1 h.1, starAll h.2]
    rfl
theorem noStars {es : List Expr} (h : es.all noStar = true) (env : Env) (pos : Pos) : (backTo pos (starEach es env)).any (·.1) = false := by
  rw [starAll h]
  unfold backTo
  simp [List.any_eq_false]
theorem snd_tup {e : Expr} {es : Es} (ha : ∀ xs, ckEs k es xs = true → SndA X W xa xs (evEs cs cl es)) (h : ckE k (.tup es) e = true) : Snd X W xa e (evE cs cl (.tup es)) := by
  unfold ckE at h
  split at h
  · refine snd_plain (PE.weak (pe_tup (ha _ h).pa) ?_) rfl
    rintro σ H Q ⟨ρ, F, st, env, s, er, w⟩
    simp only [evE] at w
    refine ⟨ρ, F, st, env, s, er, w.bnd fun x st1 e1 w ρ1 vs H1 n1 s1 r1 => ?_⟩
    split at w
    · rename_i ds e2
      split at w
      · rename_i hz
        have r2 := r1.dAll e2
        exact ⟨by rw [r2.length]; exact hz, fun p hp => (w.nx n1).ret s1 (.tup hp r2)⟩
      · exact w.elim
    · exact w.elim
  · cases h
theorem snd_lst {e : Expr} {es : Es} (ha : ∀ xs, ckEs k es xs = true → SndA X W xa xs (evEs cs cl es)) (h : ckE k (.lst es) e = true) : Snd X W xa e (evE cs cl (.lst es)) := by
  unfold ckE at h
  split at h
  · refine snd_plain (PE.weak (pe_lst (ha _ h).pa) ?_) rfl
    rintro σ H Q ⟨ρ, F, st, env, s, er, w⟩
    simp only [evE] at w
    refine ⟨ρ, F, st, env, s, er, w.bnd fun x st1 e1 w ρ1 vs H1 n1 s1 r1 => ?_⟩
    split at w
    · rename_i ds e2
      split at w
      · rename_i hz
        have r2 := r1.dAll e2
        exact ⟨by rw [r2.length]; exact hz, fun p hp => (w.nx n1).ret s1 (.lst hp r2)⟩
      · exact w.elim
    · exact w.elim
  · cases h
theorem snd_lstS {e : Expr} {es : Es} (ha : ∀ xs, ckEs k es xs = true → SndA X W xa xs (evEs cs cl es)) (h : ckE k (.lstS es) e = true) : Snd X W xa e (evE cs cl (.lstS es)) := by
  unfold ckE at h
  split at h
  · refine snd_plain (PE.weak (pe_lst (ha _ h).pa) ?_) rfl
    rintro σ H Q ⟨ρ, F, st, env, s, er, w⟩
    simp only [evE] at w
    refine ⟨ρ, F, st, env, s, er, w.bnd fun x st1 e1 w ρ1 vs H1 n1 s1 r1 => ?_⟩
    split at w
    · rename_i ds e2
      split at w
      · rename_i hz
        have r2 := r1.dAll e2
        refine ⟨by rw [r2.length]; exact hz, fun p hp => ?_⟩
        have n2 := s1.nxNewS (o := .lst vs) hp
        refine w (ρ1 ++ [p]) _ _ (n1.trans n2) (s1.newS hp ⟨vs, upd_same, r2.mono n2⟩) ⟨p, ?_, rfl⟩
        rw [← s1.len, List.getElem?_append_right (Nat.le_refl _), Nat.sub_self]
        rfl
      · exact w.elim
    · exact w.elim
  · cases h
/-! ### a dict's display -/
def trsOf (K : Ky) (W : WX) (cs : List D) (cl : Nat → List Vl → Sto → Res Vl) : List Str → Es → List (TE × TE)
  | x :: xs, .cons e r => (tC (.str x), tV K W (evE cs cl e)) :: trsOf K W cs cl xs r
  | _, _ => []
theorem pairs_rd {K : Ky} {F : List Addr} {σ : L2.St} {env : Envr} : ∀ (ks : List Str) (es : Es) (ρ : List Addr) (H : Hp) (st st' : Sto) (vs : List Vl) (R : List (V × V) → Hp → Prop), SR K H ρ F st → ER K H F ρ σ env → evEs cs cl es env st = .ok vs st' → vs.length = ks.length →
    (∀ ρ' H' us, Nx ρ H ρ' H' → SR K H' ρ' F st' → RVs K H' F ρ' us vs → R ((ks.map V.str).zip us) H') → tPairs (trsOf K W cs cl ks es) σ H R
  | [], .nil, ρ, H, st, st', vs, R, s, er, e, hl, q => by
    simp only [evEs] at e
    cases e
    exact q ρ H [] s.refl s .nil
  | [], .cons c r, ρ, H, st, st', vs, R, s, er, e, hl, q => by
    have hv : vs = [] := List.length_eq_zero_iff.mp hl
    subst hv
    simp only [evEs] at e
    cases e1 : evE cs cl c env st with
    | no => rw [e1] at e; cases e
    | ex c fs s1 => rw [e1] at e; cases e
    | ok v st1 =>
      rw [e1, bnd_ok] at e
      cases e2 : evEs cs cl r env st1 with
      | no => rw [e2] at e; cases e
      | ex c fs s2 => rw [e2] at e; cases e
      | ok ws st2 => rw [e2] at e; cases e
  | x :: xs, .nil, ρ, H, st, st', vs, R, s, er, e, hl, q => by
    simp only [evEs] at e
    cases e
    cases hl
  | x :: xs, .cons c r, ρ, H, st, st', vs, R, s, er, e, hl, q => by
    simp only [evEs] at e
    cases e1 : evE cs cl c env st with
    | no => rw [e1] at e; cases e
    | ex c fs s1 => rw [e1] at e; cases e
    | ok v st1 =>
      rw [e1, bnd_ok] at e
      cases e2 : evEs cs cl r env st1 with
      | no => rw [e2] at e; cases e
      | ex c fs s2 => rw [e2] at e; cases e
      | ok ws st2 =>
        rw [e2, bnd_ok] at e
        cases e
        refine ⟨ρ, F, st, env, s, er, ?_⟩
        rw [e1]
        intro ρ1 y H1 n1 s1 r1
        refine pairs_rd xs r ρ1 H1 st1 _ ws _ s1 (er.mono n1) e2 (by simpa using hl) fun ρ2 H2 us n2 s2 r2 => ?_
        exact q ρ2 H2 (y :: us) (n1.trans n2) s2 (.cons (r1.mono n2) r2)
inductive AllS (X : Cx) (W : WX) (xa : Option (Addr × Addr × Addr)) (cs : List D) (cl : Nat → List Vl → Sto → Res Vl) : Es → List Expr → Prop
  | nil : AllS X W xa cs cl .nil []
  | cons {c : E} {r : Es} {e : Expr} {es : List Expr} : Snd X W xa e (evE cs cl c) → noStar e = true → AllS X W xa cs cl r es → AllS X W xa cs cl (.cons c r) (e :: es)
theorem AllS.a : ∀ {es : Es} {xs : List Expr}, AllS X W xa cs cl es xs → SndA X W xa xs (evEs cs cl es)
  | _, _, .nil => sndA_nil
  | _, _, .cons h1 h2 h3 => sndA_cons h1 h2 h3.a
theorem pps_of {pos : Pos} : ∀ {ks : List Str} {keys : List (Option Expr)} {es : Es} {vals : List Expr}, ckKeys ks keys = true → keys.length = vals.length → AllS X W xa cs cl es vals → PPs X pos keys vals (trsOf (ky X xa) W cs cl ks es) ∧ keys.all (·.isSome) = true
  | [], [], _, _, _, hl, .nil => ⟨pps_nil, rfl⟩
  | [], [], _, _, _, hl, .cons _ _ _ => by cases hl
  | _ :: _, [], _, _, h, _, _ => by simp [ckKeys] at h
  | [], _ :: _, _, _, h, _, _ => by simp [ckKeys] at h
  | _ :: _, _ :: _, _, _, _, hl, .nil => by cases hl
  | x :: xs, o :: os, _, _, h, hl, .cons h1 h2 h3 => by
    simp only [ckKeys, Bool.and_eq_true] at h
    obtain ⟨h4, h5⟩ := h
    split at h4
    · have h6 : _ = _ := of_decide_eq_true h4
      subst h6
      obtain ⟨p1, p2⟩ := pps_of h5 (by simpa using hl) h3
      exact ⟨pps_cons pe_str h1.pe p1, by simp [p2]⟩
    · cases h4
theorem keys_len : ∀ {ks : List Str} {keys : List (Option Expr)}, ckKeys ks keys = true → ks.length = keys.length
  | [], [], _ => rfl
  | _ :: _, [], h => by simp [ckKeys] at h
  | [], _ :: _, h => by simp [ckKeys] at h
  | _ :: _, _ :: _, h => by
    simp only [ckKeys, Bool.and_eq_true] at h
    simp [keys_len h.2]
theorem merge_kvs {K : PySem.W.Frag} {H : Hp} {B : List Addr} : ∀ {ks : List Str} {us : List V} {xs : List D} {a : List (Key × V)} {b : List (Key × D)}, RpA K H B us xs → Kvs K H B a b → us.length = ks.length →
    ∃ kvs : List (Key × V), (ks.map V.str).zip us = kvs.map (fun kv => (kV kv.1, kv.2)) ∧ kvs.length = ks.length ∧ Kvs K H B (mergeK a kvs) (((ks.map Sum.inr).zip xs).foldl (fun acc kv => putD acc kv.1 kv.2) b)
  | [], _, _, a, b, .nil, r, _ => ⟨[], rfl, rfl, r⟩
  | _ :: _, _, _, a, b, .nil, _, hl => by cases hl
  | [], _, _, a, b, .cons _ _, _, hl => by cases hl
  | k :: ks, _, _, a, b, .cons (v := v) (x := x) h t, r, hl => by
    obtain ⟨kvs, e1, e2, e3⟩ := merge_kvs (ks := ks) (a := putK a (Sum.inr k) v) (b := putD b (Sum.inr k) x) t (r.put h) (by simpa using hl)
    refine ⟨(Sum.inr k, v) :: kvs, ?_, by simp [e2], ?_⟩
    · simp only [List.map_cons, List.zip_cons_cons, e1]
      rfl
    · exact e3
theorem snd_dicS {e : Expr} {ks : List Str} {es : Es} (ha : ∀ xs, ckEs k es xs = true → AllS X W xa cs cl es xs) (h : ckE k (.dicS ks es) e = true) : Snd X W xa e (evE cs cl (.dicS ks es)) := by
  unfold ckE at h
  split at h
  · rename_i keys vals pos
    simp only [Bool.and_eq_true, decide_eq_true_eq, Bool.not_eq_true'] at h
    obtain ⟨⟨⟨⟨h1, h2⟩, h3⟩, h4⟩, h5⟩ := h
    obtain ⟨p1, p2⟩ := pps_of (pos := pos) h1 h4 (ha _ h5)
    refine snd_plain (PE.weak (pe_disp p1 p2 h4 (by intro z; rw [z] at h2; cases h2) h3) ?_) rfl
    rintro σ H Q ⟨ρ, F, st, env, s, er, w⟩
    simp only [evE] at w
    obtain ⟨x, st1, e1, w⟩ := w.inv
    split at w
    · rename_i ds e2
      split at w
      · rename_i hz
        intro p hp
        have n0 := s.nxNew (o := .dK []) hp
        have hlen : x.length = ks.length := by
          have : ∀ {xs : List Vl} {ds : List D}, dAll xs = some ds → xs.length = ds.length := by
            intro xs
            induction xs with
            | nil => intro ds z; cases z; rfl
            | cons a r ih =>
              intro ds z
              cases a with
              | d y =>
                unfold dAll at z
                obtain ⟨m, z1, rfl⟩ := Option.map_eq_some_iff.mp z
                simp [ih z1]
              | r n => cases z
              | x c fs => cases z
          rw [this e2]; exact hz.1
        refine pairs_rd (F := p :: F) (env := env) ks es ρ _ st st1 x _ (s.addF hp) ((er.more hp).mono (F := p :: F) n0) e1 hlen fun ρ1 H1 us n1 s1 r1 => ?_
        have np : p ∉ ρ := s.fresh hp
        have hH1 : H1 p = some (.dK []) := n1.keep p _ upd_same np
        have nt : ∀ xs, ¬ Rd H1 p (.tup xs) := fun xs z => by
          rcases z with z | ⟨ob, z⟩ <;> (rw [hH1] at z; cases z)
        have np1 : p ∉ ρ1 := fun z => by
          obtain ⟨m, em, fm⟩ := n1.ext
          rw [em] at z
          rcases List.mem_append.mp z with z | z
          · exact np z
          · have := fm p z
            rw [upd_same] at this
            cases this
        have r2 := r1.dAll e2
        obtain ⟨kvs, q1, q2, q3⟩ := merge_kvs (ks := ks) (a := []) (b := []) r2 .nil (by rw [r2.length]; exact hz.1)
        refine ⟨hH1, kvs, q1, by rw [q2]; exact hz.2, ?_⟩
        refine w (ρ1 ++ [p]) _ _ (n1.adopt hp nt) (s1.adopt np1 nt ⟨_, upd_same, Kvs.sub (fun a ha => mem_shift.mpr ha) (q3.upd (by simp) nt)⟩) ⟨p, ?_, rfl⟩
        rw [← s1.len, List.getElem?_append_right (Nat.le_refl _), Nat.sub_self]
        rfl
      · exact w.elim
    · exact w.elim
  · cases h
theorem snd_dget {e : Expr} {a b : E} (g : Gd cs cl kk k X W xa) (ha : ∀ e, ckE k a e = true → Snd X W xa e (evE cs cl a)) (hb : ∀ e, ckE k b e = true → Snd X W xa e (evE cs cl b)) (h : ckE k (.dget a b) e = true) : Snd X W xa e (evE cs cl (.dget a b)) := by
  have hu : X.A.units + 1 < cLine := by have := g.units; omega
  unfold ckE at h
  split at h
  · simp only [Bool.and_eq_true] at h
    obtain ⟨⟨h1, h2⟩, h3⟩ := h
    refine snd_plain (PE.weak (pe_dget hu (ha _ h1).pe (hb _ h2).pe (ixPlain h3)) ?_) rfl
    rintro σ H Q ⟨ρ, F, st, env, s, er, w⟩
    simp only [evE] at w
    refine ⟨ρ, F, st, env, s, er, w.bnd fun x st1 e1 w ρ1 v H1 n1 s1 r1 => ?_⟩
    refine ⟨ρ1, F, st1, env, s1, er.mono n1, w.bndN n1 fun y st2 e2 w ρ2 u H2 n2 s2 r2 => ?_⟩
    cases x with
    | d _ => exact w.elim
    | x _ _ => exact w.elim
    | r n =>
     cases y with
     | r _ => exact w.elim
     | x _ _ => exact w.elim
     | d kd =>
      obtain ⟨c, e3, q⟩ := (w.nx (n1.trans n2)).lift s2
      unfold dgetD at e3
      split at e3
      · rename_i kvs e4
        obtain ⟨key, e5, e6⟩ := Option.bind_eq_some_iff.mp e3
        obtain ⟨pa, hpa, rfl⟩ := r1.mono n2
        obtain ⟨xs, hx, rx⟩ := s2.obj n _ pa e4 hpa
        obtain ⟨vv, ev1, ev2⟩ := rx.get e6
        have hkey : u = kV key := by
          cases kd <;> first | (cases e5; done) | (cases e5; cases r2; rfl)
        subst hkey
        refine ⟨pa, vv, rfl, ?_, q _ _ (.old ev2)⟩
        have dg : DGet H2 pa (kV key) (valV xs key) := DGet.k hx
        rw [ev1] at dg
        exact dg
      · cases e3
  · cases h
end
end Ev
end
section
set_option maxRecDepth 10000
namespace Ev
open PySem PySem.Spec PyProof.Rows L2
section
variable {cs : List D} {cl : Nat → List Vl → Sto → Res Vl} {kk : Nat} {k : Ck} {X : Cx} {W : WX} {xa : Option (Addr × Addr × Addr)}
theorem snd_call {e : Expr} {f : Nat} {es : Es} (g : Gd cs cl kk k X W xa) (ha : ∀ xs, ckEs k es xs = true → SndA X W xa xs (evEs cs cl es)) (h : ckE k (.call f es) e = true) : Snd X W xa e (evE cs cl (.call f es)) := by
  unfold ckE at h
  split at h
  · rename_i x p args pos
    simp only [Bool.and_eq_true, decide_eq_true_eq] at h
    obtain ⟨⟨⟨h0, h1⟩, h2⟩, h3⟩ := h
    obtain ⟨g1, g2, g3⟩ := g.gl h2
    have A := ha _ h3
    obtain ⟨fa, m1, m2, run⟩ : ∃ fa, X.mg x = some (.ref fa) ∧ PySem.W.keepIn X.K (.ref fa) = true ∧ ∀ (pins : List (Addr × Obj)) (s : Shared) (σ : L2.St) (H : Hp) (Q : VK) (us : List Value) (vs : List V), Inv X pins σ H s → Vals vs us → spF (ky X xa) (cl f) vs H Q (WE W σ) → wpAny (model X.prog X.w) X.A (call (.ref fa) us) (EP X pins σ Q) X.xe s := by
      cases hk : k.hot with
      | false =>
        rw [hk, if_neg Bool.false_ne_true] at h0
        obtain ⟨fa, fd, ps, m1, m2, m3, G⟩ := g.fns f x h0 h1
        have xn := g.xn hk
        subst xn
        exact ⟨fa, m1, m2, fun pins s σ H Q us vs I r q => goG G g.guards (g.room hk) g.tk m3 I r q⟩
      | true =>
        rw [hk, if_pos rfl] at h0
        obtain ⟨fa, fd, ps, m1, m2, m3, G⟩ := g.fnh f x h0 h1
        obtain ⟨a, C, d, xs⟩ := g.xs hk
        obtain ⟨oe, o1, o2, o3, o4⟩ := g.hx a C d xs
        subst xs
        exact ⟨fa, m1, m2, fun pins s σ H Q us vs I r q => goX G g.guards g.roomH o2 o1 o3 o4 g.tk m3 I r q⟩
    refine snd_plain ⟨fun pins s σ H Q I w => ?_⟩ rfl
    refine wpAny_Call_Name_kw (ld_glob I g1 m1 ?_ g2)
    obtain ⟨ρ, F, st, env, s0, er, w⟩ := w
    simp only [evE] at w
    cases args with
    | nil =>
      refine PySem.W.callWith_K0 I.kIn m2 ?_
      cases es with
      | nil => exact run pins s σ H Q [] [] I .nil ⟨ρ, F, st, [], s0, .nil, w⟩
      | cons c r => simp [ckEs] at h3
    | cons y ys =>
      have rd : tVs (ky X xa) W (evEs cs cl es) σ H (fun vs H1 => spF (ky X xa) (cl f) vs H1 Q (WE W σ)) :=
        ⟨ρ, F, st, env, s0, er, w.bnd fun xs st1 e1 w ρ1 vs H1 n1 s1 r1 => ⟨ρ1, F, st1, xs, s1, r1, w.nx n1⟩⟩
      have ns := A.ns
      simp only [List.all_cons, Bool.and_eq_true] at ns
      refine PySem.W.callWith_K (h₀ := X.base) I.ok.mod.kin m2 (thn (A.pa.run pos pins s σ H _ I rd) fun us s1 z => ?_) (star1 ns.1 ys X.env) (noStars ns.2 X.env pos)
      obtain ⟨vs, H1, I1, r, q⟩ := z
      exact ⟨I1.kIn, run pins s1 σ H1 Q us vs I1 r q⟩
  · cases h
/-- values of keywords -/
theorem pk_of : ∀ {es : Es} {kws : List Keyword}, AllS X W xa cs cl es (kws.map (·.value)) → PK X kws (tVs (ky X xa) W (evEs cs cl es))
  | .nil, [], _ => by
    refine ⟨fun pos pins s σ H Q I w => pk_nil.run pos pins s σ H Q I ?_⟩
    obtain ⟨ρ, F, st, env, s0, er, w⟩ := w
    simp only [evEs] at w
    exact w.fin s0 .nil
  | .nil, _ :: _, h => by cases h
  | .cons _ _, [], h => by cases h
  | .cons c r, ⟨nm, e, kp⟩ :: kws, .cons h1 h2 h3 => by
    refine ⟨fun pos pins s σ H Q I w => (pk_cons (nm := nm) (kpos := kp) h1.pe (pk_of h3)).run pos pins s σ H Q I ?_⟩
    obtain ⟨ρ, F, st, env, s0, er, w⟩ := w
    simp only [evEs] at w
    refine ⟨ρ, F, st, env, s0, er, w.bnd fun v st1 e1 w ρ1 x H1 n1 s1 r1 => ?_⟩
    refine ⟨ρ1, F, st1, env, s1, er.mono n1, w.bndN n1 fun vs st2 e2 w ρ2 xs H2 n2 s2 r2 => ?_⟩
    exact w ρ2 _ H2 (n1.trans n2) s2 (.cons (r1.mono n2) r2)
theorem kw_some {pos : Pos} : ∀ {kws : List Keyword} {ks : List Str}, kws.map (·.arg) = ks.map some → (backToKw pos (keywordEach kws X.env)).all (·.1.isSome) = true ∧ (backToKw pos (keywordEach kws X.env)).filterMap (·.1) = ks ∧ (backToKw pos (keywordEach kws X.env)).any (·.1.isNone) = false
  | [], [], _ => ⟨rfl, rfl, rfl⟩
  | [], _ :: _, h => by cases h
  | _ :: _, [], h => by cases h
  | ⟨nm, e, kp⟩ :: kws, k :: ks, h => by
    simp only [List.map_cons, List.cons.injEq] at h
    obtain ⟨h1, h2⟩ := h
    obtain ⟨i1, i2, i3⟩ := kw_some (pos := pos) h2
    subst h1
    have q : backToKw pos (keywordEach (⟨some k, e, kp⟩ :: kws) X.env) = (some k, do let v ← eval e X.env; standAt pos; pure v) :: backToKw pos (keywordEach kws X.env) := rfl
    rw [q]
    exact ⟨by simp [i1], by simp [i2], by simp [i3]⟩
theorem RVs.append {K : Ky} {H : Hp} {F ρ : List Addr} {vs us : List V} {xs ys : List Vl} (h : RVs K H F ρ vs xs) (r : RVs K H F ρ us ys) : RVs K H F ρ (vs ++ us) (xs ++ ys) := by
  induction h with
  | nil => exact r
  | cons a _ ih => exact .cons a ih
theorem evEs_lenC {env : Envr} : ∀ {es : Es} {xs : List Expr} {k : Ck} {st st1 : Sto} {vs : List Vl}, ckEs k es xs = true → evEs cs cl es env st = .ok vs st1 → vs.length = xs.length
  | .nil, [], _, _, _, _, _, e => by cases e; rfl
  | .nil, _ :: _, _, _, _, _, h, _ => by simp [ckEs] at h
  | .cons _ _, [], _, _, _, _, h, _ => by simp [ckEs] at h
  | .cons c r, x :: xs, k, st, st1, vs, h, e => by
    simp only [ckEs, Bool.and_eq_true] at h
    simp only [evEs] at e
    cases e1 : evE cs cl c env st with
    | no => rw [e1] at e; cases e
    | ex c9 f9 s9 => rw [e1] at e; cases e
    | ok v s1 =>
      rw [e1, bnd_ok] at e
      cases e2 : evEs cs cl r env s1 with
      | no => rw [e2] at e; cases e
      | ex c9 f9 s9 => rw [e2] at e; cases e
      | ok ws s2 =>
        rw [e2, bnd_ok] at e
        cases e
        simp [evEs_lenC h.2 e2]
theorem snd_callk {e : Expr} {j f : Nat} {arr : List KA} {es ks : Es} (g : Gd cs cl kk k X W xa) (ha : ∀ xs, ckEs k es xs = true → SndA X W xa xs (evEs cs cl es)) (hb : ∀ xs, ckEs k ks xs = true → AllS X W xa cs cl ks xs) (h : ckE k (.callk j f arr es ks) e = true) : Snd X W xa e (evE cs cl (.callk j f arr es ks)) := by
  unfold ckE at h
  split at h
  · rename_i x p args kws pos
    simp only [Bool.and_eq_true, Bool.not_eq_true'] at h
    obtain ⟨⟨⟨⟨hk, h0⟩, h2⟩, h3⟩, h4⟩ := h
    split at h0
    · rename_i q hq
      simp only [Bool.and_eq_true, decide_eq_true_eq] at h0
      obtain ⟨⟨⟨⟨rfl, rfl⟩, rfl⟩, hnp⟩, hks⟩ := h0
      obtain ⟨g1, g2, g3⟩ := g.gl h2
      have A := ha _ h3
      obtain ⟨fa, fd, ps, m1, m2, m3, G⟩ := g.kfs j q hq
      have xn := g.xn hk
      subst xn
      obtain ⟨k1, k2, k3⟩ := kw_some (X := X) (pos := pos) hks
      have lk : kws.length = q.ks.length := by
        have := congrArg List.length hks
        simpa using this
      refine snd_plain ⟨fun pins s σ H Q I w => ?_⟩ rfl
      refine wpAny_Call_Name_kw (ld_glob I g1 m1 ?_ g2)
      obtain ⟨ρ, F, st, env, s0, er, w⟩ := w
      simp only [evE] at w
      have fin : ∀ (s1 : Shared) (H1 : Hp) (us : List Value) (vs : List V) (xs : List Vl) (st1 : Sto) (ρ1 : List Addr), Inv X pins σ H1 s1 → Vals vs us → us.length = q.np → Nx ρ H ρ1 H1 → SR X.K H1 ρ1 F st1 → RVs (ky X none) H1 F ρ1 vs xs → Wn (ky X none) (fun c d => W c d σ) F (relV (ky X none) F) ρ H ((evEs cs cl ks env st1).bnd fun ws st2 => callK cs cl q.f q.arr (xs ++ ws) st2) Q →
          wpAny (model X.prog X.w) X.A (evalAll ((backToKw pos (keywordEach kws X.env)).map (·.2))) (fun ws s2 => X.K.In s2.heap ∧ wpAny (model X.prog X.w) X.A (call (.ref fa) us (((backToKw pos (keywordEach kws X.env)).filterMap (·.1)).zip ws)) (EP X pins σ Q) X.xe s2) X.xe s1 := by
        intro s1 H1 us vs xs st1 ρ1 I1 r hl n1 s1' rv w
        have rdk : tVs (ky X none) W (evEs cs cl ks) σ H1 (fun zs H2 => ∃ ρ2 st2 ys ws, zs.length = q.ks.length ∧ Nx ρ1 H1 ρ2 H2 ∧ SR X.K H2 ρ2 F st2 ∧ RVs (ky X none) H2 F ρ2 (vs ++ zs) (xs ++ ws) ∧ kaVs cs (xs ++ ws) q.arr = some ys ∧ Wn (ky X none) (WE W σ) F (relV (ky X none) F) ρ2 H2 (cl q.f ys st2) Q) := by
          refine ⟨ρ1, F, st1, env, s1', er.mono n1, w.bndN n1 fun ws st2 e2 w ρ2 zs H2 n2 s2 r2 => ?_⟩
          unfold callK at w
          cases ek : kaVs cs (xs ++ ws) q.arr with
          | none => rw [ek] at w; exact w.elim
          | some ys =>
            rw [ek] at w
            exact ⟨ρ2, st2, ys, ws, by rw [r2.length, evEs_lenC h4 e2, List.length_map, lk], n2, s2, (rv.mono n2).append r2, ek, w.nx (n1.trans n2)⟩
        refine thn ((pk_of (hb _ h4)).run pos pins s1 σ H1 _ I1 rdk) fun ws s2 ⟨zs, H2, I2, rz, ρ2, st2, ys, wsv, lz, n2, s2', rv2, ek, w2⟩ => ⟨I2.kIn, ?_⟩
        rw [k2]
        exact goK G g.guards (g.room hk) g.tk m3 I2 r rz hl (by rw [← rz.length]; exact lz) s2' rv2 ek w2
      cases args with
      | nil =>
        refine PySem.W.callWith_KW0 (h₀ := X.base) I.ok.mod.kin m2 k1 ?_ (by rw [k3]; rfl)
        cases es with
        | nil => exact fin s H [] [] [] st ρ I .nil (by rw [hnp]; rfl) s0.refl s0 .nil w
        | cons c r => simp [ckEs] at h3
      | cons y ys =>
        have rd : tVs (ky X none) W (evEs cs cl es) σ H (fun vs H1 => ∃ ρ1 st1 xs, vs.length = q.np ∧ Nx ρ H ρ1 H1 ∧ SR X.K H1 ρ1 F st1 ∧ RVs (ky X none) H1 F ρ1 vs xs ∧ Wn (ky X none) (fun c d => W c d σ) F (relV (ky X none) F) ρ H ((evEs cs cl ks env st1).bnd fun ws st2 => callK cs cl q.f q.arr (xs ++ ws) st2) Q) :=
          ⟨ρ, F, st, env, s0, er, w.bnd fun xs st1 e1 w ρ1 vs H1 n1 s1 r1 => ⟨ρ1, st1, xs, by rw [r1.length, evEs_lenC h3 e1, hnp], n1, s1, r1, w⟩⟩
        have ns := A.ns
        simp only [List.all_cons, Bool.and_eq_true] at ns
        have np : (backTo pos (starEach (y :: ys) X.env)).any (·.1) = false := by
          rw [star1 ns.1 ys X.env]
          exact noStars ns.2 X.env pos
        refine PySem.W.callWith_KW (h₀ := X.base) I.ok.mod.kin m2 k1 (thn (A.pa.run pos pins s σ H _ I rd) fun us s1 z => ?_) (by rw [np, k3]; rfl) (star1 ns.1 ys X.env)
        obtain ⟨vs, H1, I1, r, ρ1, st1, xs, l1, n1, s1', rv, w⟩ := z
        exact fin s1 H1 us vs xs st1 ρ1 I1 r (by rw [← r.length]; exact l1) n1 s1' rv w
    · cases h0
  · cases h
theorem snd_bi {e : Expr} {b : Bi} {es : Es} (g : Gd cs cl kk k X W xa) (ha : ∀ xs, ckEs k es xs = true → SndA X W xa xs (evEs cs cl es)) (h : ckE k (.bi b es) e = true) : Snd X W xa e (evE cs cl (.bi b es)) := by
  have hu : X.A.units + 70 < cLine := by have := g.units; omega
  unfold ckE at h
  split at h
  · rename_i x p y ys pos
    simp only [Bool.and_eq_true, decide_eq_true_eq] at h
    obtain ⟨⟨⟨⟨h0, rfl⟩, h2⟩, h3⟩, h4⟩ := h
    simp only [Bool.not_eq_true'] at h0
    obtain ⟨g1, g2, g3⟩ := g.gl h2
    have m := g.blt _ h3
    have A := ha _ h4
    have ns := A.ns
    simp only [List.all_cons, Bool.and_eq_true] at ns
    have R := call_bi (X := X) (g.calm h0) g.guards hu b
    have rule : PE X (.Call (.Name (biName b) p) (y :: ys) [] pos) (tCB (rBi X.K b) (tVs (ky X xa) W (evEs cs cl es))) := by
      cases b with
      | len => exact pe_callB R g1 m PySem.boot_len A.pa g3 g2 (star1 ns.1 ys X.env) (noStars ns.2 X.env pos)
      | abs => exact pe_callB R g1 m (by decide +kernel) A.pa g3 g2 (star1 ns.1 ys X.env) (noStars ns.2 X.env pos)
      | repr => exact pe_callB R g1 m (by decide +kernel) A.pa g3 g2 (star1 ns.1 ys X.env) (noStars ns.2 X.env pos)
      | min => exact pe_callB R g1 m (by decide +kernel) A.pa g3 g2 (star1 ns.1 ys X.env) (noStars ns.2 X.env pos)
      | max => exact pe_callB R g1 m (by decide +kernel) A.pa g3 g2 (star1 ns.1 ys X.env) (noStars ns.2 X.env pos)
      | tuple => exact pe_callTy R g1 m (by decide +kernel) A.pa g3 g2 (star1 ns.1 ys X.env) (noStars ns.2 X.env pos)
      | list => exact pe_callTy R g1 m (by decide +kernel) A.pa g3 g2 (star1 ns.1 ys X.env) (noStars ns.2 X.env pos)
      | int => exact pe_callTy R g1 m (by decide +kernel) A.pa g3 g2 (star1 ns.1 ys X.env) (noStars ns.2 X.env pos)
      | all => exact pe_callB R g1 m (by decide +kernel) A.pa g3 g2 (star1 ns.1 ys X.env) (noStars ns.2 X.env pos)
      | any => exact pe_callB R g1 m (by decide +kernel) A.pa g3 g2 (star1 ns.1 ys X.env) (noStars ns.2 X.env pos)
      | sum => exact pe_callB R g1 m (by decide +kernel) A.pa g3 g2 (star1 ns.1 ys X.env) (noStars ns.2 X.env pos)
    refine snd_plain (PE.weak rule ?_) rfl
    rintro σ H Q ⟨ρ, F, st, env, s, er, w⟩
    simp only [evE] at w
    refine ⟨ρ, F, st, env, s, er, w.bnd fun xs st1 e1 w ρ1 vs H1 n1 s1 r1 => ?_⟩
    obtain ⟨ds, e2, w⟩ := Wn.asDs w
    obtain ⟨c, e3, q⟩ := (w.nx n1).lift s1
    exact ⟨_, ds, c, r1.asDs s1 e2, e3, fun z H' f => q z H' f.new⟩
  · cases h
theorem boot_ty (t : Ty) : bootBuiltins (tyName t) = some (.type (tyS t)) := by cases t <;> decide +kernel
theorem snd_isin {e : Expr} {a : E} {t : Ty} (g : Gd cs cl kk k X W xa) (ha : ∀ e, ckE k a e = true → Snd X W xa e (evE cs cl a)) (h : ckE k (.isin a t) e = true) : Snd X W xa e (evE cs cl (.isin a t)) := by
  unfold ckE at h
  split at h
  · rename_i x p y ty p2 pos
    simp only [Bool.and_eq_true, decide_eq_true_eq] at h
    obtain ⟨⟨⟨⟨⟨⟨⟨rfl, h2⟩, h3⟩, rfl⟩, h5⟩, h6⟩, h7⟩, h8⟩ := h
    obtain ⟨g1, g2, g3⟩ := g.gl h2
    obtain ⟨f1, f2, f3⟩ := g.gl h5
    have P := (ha _ h7).pe
    have pt : PE X (.Name (tyName t) p2) (tC (.ty (tyS t))) := pe_bltn f1 (g.blt _ h6) (boot_ty t) rfl f3 f2
    refine snd_plain (PE.weak (pe_callB call_isi g1 (g.blt _ h3) (by decide +kernel) (pa_cons P (pa_cons pt pa_nil) (star1 h8 _ X.env)) g3 g2 (star1 h8 _ X.env)) ?_) rfl
    rintro σ H Q ⟨ρ, F, st, env, s, er, w⟩
    simp only [evE] at w
    refine ⟨ρ, F, st, env, s, er, w.bnd fun v st1 e1 w ρ1 u H1 n1 s1 r1 => ?_⟩
    obtain ⟨d, e2, w⟩ := w.asD
    have ro := RV.ro s1 r1 e2
    exact ⟨u, _, _, _, _, rfl, .ty _, ro_ty ro, kit_ty (isTy_kit t d (ro_nodict ro)), (w.nx n1).fin s1 (.bl _)⟩
  · cases h
/-! ### slices -/
def tO (K : Ky) (W : WX) (f : Envr → Sto → Res (Option Int)) : TO := fun σ H Q => ∃ ρ F st env, SR K H ρ F st ∧ ER K H F ρ σ env ∧ Wn K (fun c d => W c d σ) F (fun _ _ (x y : Option Int) => x = y) ρ H (f env st) Q
theorem PO.weak {e : Option Expr} {t t' : TO} (h : PO X e t) (w : ∀ σ H Q, t' σ H Q → t σ H Q) : PO X e t' := ⟨fun pins s σ H Q I q => h.run pins s σ H Q I (w σ H Q q)⟩
theorem nilE {c : E} (h : isNilE c = true) : c = .nil := by
  cases c <;> first | rfl | cases h
theorem po_of {c : E} {l : Option Expr} (hc : ∀ e, ckE k c e = true → Snd X W xa e (evE cs cl c)) (h : ckO l (isNilE c) (fun x => ckE k c x) = true) : PO X l (tO (ky X xa) W (fun env st => ptOf (isNilE c) (evE cs cl c env st))) := by
  cases l with
  | none =>
    have e := nilE h
    subst e
    refine PO.weak po_none ?_
    rintro σ H Q ⟨ρ, F, st, env, s, er, w⟩
    exact w.fin s rfl
  | some l' =>
    simp only [ckO, Bool.and_eq_true, Bool.not_eq_true'] at h
    refine PO.weak (po_some (hc _ h.2).pe) ?_
    rintro σ H Q ⟨ρ, F, st, env, s, er, w⟩
    have w1 : Wn (ky X xa) (fun c d => W c d σ) F (fun _ _ (x y : Option Int) => x = y) ρ H ((evE cs cl c env st).bnd fun v st => sel (some (isNilE c)) (.ok none st) (intV v st)) Q := w
    refine ⟨ρ, F, st, env, s, er, w1.bnd fun v st1 e1 w ρ1 u H1 n1 s1 r1 => ?_⟩
    rw [h.1, sel_ff] at w
    unfold intV at w
    split at w
    · cases r1
      exact ⟨_, rfl, (w.nx n1).fin s1 rfl⟩
    · exact w.elim
theorem snd_slc {e : Expr} {a lo hi : E} (ha : ∀ e, ckE k a e = true → Snd X W xa e (evE cs cl a)) (hl : ∀ e, ckE k lo e = true → Snd X W xa e (evE cs cl lo)) (hh : ∀ e, ckE k hi e = true → Snd X W xa e (evE cs cl hi)) (h : ckE k (.slc a lo hi) e = true) : Snd X W xa e (evE cs cl (.slc a lo hi)) := by
  unfold ckE at h
  split at h
  · simp only [Bool.and_eq_true] at h
    obtain ⟨⟨h1, h2⟩, h3⟩ := h
    refine snd_plain (PE.weak (pe_slice sl_slc (ha _ h1).pe (po_of hl h2) (po_of hh h3)) ?_) rfl
    rintro σ H Q ⟨ρ, F, st, env, s, er, w⟩
    simp only [evE] at w
    refine ⟨ρ, F, st, env, s, er, w.bnd fun x st1 e1 w ρ1 v H1 n1 s1 r1 => ?_⟩
    refine ⟨ρ1, F, st1, env, s1, er.mono n1, w.bndN n1 fun l st2 e2 w ρ2 u H2 n2 s2 r2 => ?_⟩
    refine ⟨ρ2, F, st2, env, s2, er.mono (n1.trans n2), w.bndN (n1.trans n2) fun r st3 e3 w ρ3 u' H3 n3 s3 r3 => ?_⟩
    obtain ⟨d, e4, w⟩ := w.asD
    cases r2; cases r3
    obtain ⟨c, e5, q⟩ := (w.nx (n1.trans (n2.trans n3))).lift s3
    exact ⟨_, d, c, RV.ro s3 (r1.mono (n2.trans n3)) e4, e5, fun z H' f => q z H' f.new⟩
  · cases h
theorem snd_rev {e : Expr} {a : E} (ha : ∀ e, ckE k a e = true → Snd X W xa e (evE cs cl a)) (h : ckE k (.rev a) e = true) : Snd X W xa e (evE cs cl (.rev a)) := by
  unfold ckE at h
  split at h
  · refine snd_plain (PE.weak (pe_rev (ha _ h).pe) ?_) rfl
    rintro σ H Q ⟨ρ, F, st, env, s, er, w⟩
    simp only [evE] at w
    refine ⟨ρ, F, st, env, s, er, w.bnd fun x st1 e1 w ρ1 v H1 n1 s1 r1 => ?_⟩
    obtain ⟨d, e2, w⟩ := w.asD
    have ro := RV.ro s1 r1 e2
    have w1 := w.nx n1
    split at w
    · obtain ⟨b, vs, rfl, l, rr⟩ := ro
      refine ⟨b, vs, rfl, .inl ⟨l, fun p hp => ?_⟩⟩
      obtain ⟨n2, s2, r2⟩ := (New.lst hp rr.reverse).done s1
      exact w1 ρ1 _ _ n2 s2 r2
    · obtain ⟨b, vs, rfl, l, rr⟩ := ro
      refine ⟨b, vs, rfl, .inr ⟨l, fun p hp => ?_⟩⟩
      obtain ⟨n2, s2, r2⟩ := (New.tup hp rr.reverse).done s1
      exact w1 ρ1 _ _ n2 s2 r2
    · exact w.elim
  · cases h
theorem own_end {K : Ky} {Z : XK} {F ρ : List Addr} {H : Hp} {o : Option D} {st : Sto} {Q : V → Hp → Prop} (h : Wn K Z F (relV K F) ρ H ((Ev.lift o st).bnd fun v st1 => ownV v st1) Q) (s : SR K H ρ F st) : ∃ c, o = some c ∧ ∀ z H', Fsh K H (ρ ++ F) z c H' → Q z H' := by
  cases o with
  | none => exact h.elim
  | some c =>
    refine ⟨c, rfl, fun z H' f => ?_⟩
    have h1 : Wn K Z F (relV K F) ρ H (ownV (.d c) st) Q := h
    cases c with
    | list ds =>
      cases f with
      | old _ e => cases e
      | lst hp r =>
        rename_i p vs
        have n2 := s.nxNewS (o := .lst vs) hp
        refine h1 (ρ ++ [p]) _ _ n2 (s.newS hp ⟨vs, upd_same, r.mono n2⟩) ⟨p, ?_, rfl⟩
        rw [← s.len, List.getElem?_append_right (Nat.le_refl _), Nat.sub_self]
        rfl
    | _ => exact h1.elim
theorem own_bin {e : Expr} {op : Op} {a b : E} (ha : ∀ e, ckE k a e = true → Snd X W xa e (evE cs cl a)) (hb : ∀ e, ckE k b e = true → Snd X W xa e (evE cs cl b)) (h : ckE k (.bin op a b) e = true) : Snd X W xa e (evE cs cl (.own (.bin op a b))) := by
  unfold ckE at h
  split at h
  · simp only [Bool.and_eq_true, decide_eq_true_eq] at h
    obtain ⟨⟨rfl, h1⟩, h2⟩ := h
    refine snd_plain (PE.weak (pe_op (op_bin op) (ha _ h1).pe (hb _ h2).pe) ?_) rfl
    rintro σ H Q ⟨ρ, F, st, env, s, er, w⟩
    simp only [evE] at w
    obtain ⟨v0, st0, e0, w⟩ := w.inv
    obtain ⟨x, st1, e1, w0⟩ := (show ∃ x st1, evE cs cl a env st = .ok x st1 ∧ _ from by
      cases q : evE cs cl a env st with
      | no => rw [q] at e0; cases e0
      | ex c9 f9 s9 => rw [q] at e0; cases e0
      | ok x st1 => rw [q, bnd_ok] at e0; exact ⟨x, st1, rfl, e0⟩)
    obtain ⟨y, st2, e2, w1⟩ := (show ∃ y st2, evE cs cl b env st1 = .ok y st2 ∧ _ from by
      cases q : evE cs cl b env st1 with
      | no => rw [q] at w0; cases w0
      | ex c9 f9 s9 => rw [q] at w0; cases w0
      | ok x st2 => rw [q, bnd_ok] at w0; exact ⟨x, st2, rfl, w0⟩)
    obtain ⟨x', e3, w2⟩ := (show ∃ x', rd st2 x = some x' ∧ _ from by
      unfold asD at w1
      cases q : rd st2 x with
      | none => rw [q] at w1; cases w1
      | some x' => rw [q, bnd_ok] at w1; exact ⟨x', rfl, w1⟩)
    obtain ⟨y', e4, w3⟩ := (show ∃ y', rd st2 y = some y' ∧ _ from by
      cases q : rd st2 y with
      | none => rw [q] at w2; cases w2
      | some x' => rw [q, bnd_ok] at w2; exact ⟨x', rfl, w2⟩)
    have w4 : Wn (ky X xa) (fun c d => W c d σ) F (relV (ky X xa) F) ρ H ((lift (binD op x' y') st2).bnd fun v st1 => ownV v st1) Q := by rw [w3]; exact w
    refine ⟨ρ, F, st, env, s, er, ?_⟩
    rw [e1]
    intro ρ1 v H1 n1 s1 r1
    refine ⟨ρ1, F, st1, env, s1, er.mono n1, ?_⟩
    rw [e2]
    intro ρ2 u H2 n2 s2 r2
    obtain ⟨c, e5, q⟩ := own_end (w4.nx (n1.trans n2)) s2
    exact ⟨_, x', y', c, RV.ro s2 (r1.mono n2) e3, RV.ro s2 r2 e4, e5, q⟩
  · cases h
theorem own_list {e : Expr} {es : Es} (g : Gd cs cl kk k X W xa) (ha : ∀ xs, ckEs k es xs = true → SndA X W xa xs (evEs cs cl es)) (h : ckE k (.bi .list es) e = true) : Snd X W xa e (evE cs cl (.own (.bi .list es))) := by
  have hu : X.A.units + 70 < cLine := by have := g.units; omega
  unfold ckE at h
  split at h
  · rename_i x p y ys pos
    simp only [Bool.and_eq_true, decide_eq_true_eq] at h
    obtain ⟨⟨⟨⟨h0, rfl⟩, h2⟩, h3⟩, h4⟩ := h
    simp only [Bool.not_eq_true'] at h0
    obtain ⟨g1, g2, g3⟩ := g.gl h2
    have m := g.blt _ h3
    have A := ha _ h4
    have ns := A.ns
    simp only [List.all_cons, Bool.and_eq_true] at ns
    have R := call_bi (X := X) (g.calm h0) g.guards hu .list
    refine snd_plain (PE.weak (pe_callTy R g1 m (by decide +kernel) A.pa g3 g2 (star1 ns.1 ys X.env) (noStars ns.2 X.env pos)) ?_) rfl
    rintro σ H Q ⟨ρ, F, st, env, s, er, w⟩
    simp only [evE] at w
    obtain ⟨v0, st0, e0, w⟩ := w.inv
    obtain ⟨xs, st1, e1, w0⟩ := (show ∃ x st1, evEs cs cl es env st = .ok x st1 ∧ _ from by
      cases q : evEs cs cl es env st with
      | no => rw [q] at e0; cases e0
      | ex c9 f9 s9 => rw [q] at e0; cases e0
      | ok x st1 => rw [q, bnd_ok] at e0; exact ⟨x, st1, rfl, e0⟩)
    obtain ⟨ds, st2, e2, w1⟩ := (show ∃ y st2, asDs xs st1 = .ok y st2 ∧ _ from by
      cases q : asDs xs st1 with
      | no => rw [q] at w0; cases w0
      | ex c9 f9 s9 => rw [q] at w0; cases w0
      | ok x st2 => rw [q, bnd_ok] at w0; exact ⟨x, st2, rfl, w0⟩)
    have w4 : Wn (ky X xa) (fun c d => W c d σ) F (relV (ky X xa) F) ρ H ((lift (biD .list ds) st1).bnd fun v st1 => ownV v st1) Q := by rw [w1]; exact w
    refine ⟨ρ, F, st, env, s, er, ?_⟩
    rw [e1]
    intro ρ1 vs H1 n1 s1 r1
    obtain ⟨c, e5, q⟩ := own_end (w4.nx n1) s1
    exact ⟨_, ds, c, r1.asDs s1 e2, e5, q⟩
  · cases h
theorem own_slc {e : Expr} {a lo hi : E} (ha : ∀ e, ckE k a e = true → Snd X W xa e (evE cs cl a)) (hl : ∀ e, ckE k lo e = true → Snd X W xa e (evE cs cl lo)) (hh : ∀ e, ckE k hi e = true → Snd X W xa e (evE cs cl hi)) (h : ckE k (.slc a lo hi) e = true) : Snd X W xa e (evE cs cl (.own (.slc a lo hi))) := by
  unfold ckE at h
  split at h
  · simp only [Bool.and_eq_true] at h
    obtain ⟨⟨h1, h2⟩, h3⟩ := h
    refine snd_plain (PE.weak (pe_slice sl_slc (ha _ h1).pe (po_of hl h2) (po_of hh h3)) ?_) rfl
    rintro σ H Q ⟨ρ, F, st, env, s, er, w⟩
    simp only [evE] at w
    obtain ⟨v0, st0, e0, w⟩ := w.inv
    obtain ⟨x, st1, e1, w0⟩ := (show ∃ x st1, evE cs cl a env st = .ok x st1 ∧ _ from by
      cases q : evE cs cl a env st with
      | no => rw [q] at e0; cases e0
      | ex c9 f9 s9 => rw [q] at e0; cases e0
      | ok x st1 => rw [q, bnd_ok] at e0; exact ⟨x, st1, rfl, e0⟩)
    obtain ⟨l, st2, e2, w1⟩ := (show ∃ y st2, ptOf (isNilE lo) (evE cs cl lo env st1) = .ok y st2 ∧ _ from by
      cases q : ptOf (isNilE lo) (evE cs cl lo env st1) with
      | no => rw [q] at w0; cases w0
      | ex c9 f9 s9 => rw [q] at w0; cases w0
      | ok x st2 => rw [q, bnd_ok] at w0; exact ⟨x, st2, rfl, w0⟩)
    obtain ⟨r, st3, e3, w2⟩ := (show ∃ y st3, ptOf (isNilE hi) (evE cs cl hi env st2) = .ok y st3 ∧ _ from by
      cases q : ptOf (isNilE hi) (evE cs cl hi env st2) with
      | no => rw [q] at w1; cases w1
      | ex c9 f9 s9 => rw [q] at w1; cases w1
      | ok x st2 => rw [q, bnd_ok] at w1; exact ⟨x, st2, rfl, w1⟩)
    obtain ⟨d, e4, w3⟩ := (show ∃ x', rd st3 x = some x' ∧ _ from by
      unfold asD at w2
      cases q : rd st3 x with
      | none => rw [q] at w2; cases w2
      | some x' => rw [q, bnd_ok] at w2; exact ⟨x', rfl, w2⟩)
    have w4 : Wn (ky X xa) (fun c d => W c d σ) F (relV (ky X xa) F) ρ H ((lift (slcD d l r) st3).bnd fun v st1 => ownV v st1) Q := by rw [w3]; exact w
    refine ⟨ρ, F, st, env, s, er, ?_⟩
    rw [e1]
    intro ρ1 v H1 n1 s1 r1
    refine ⟨ρ1, F, st1, env, s1, er.mono n1, ?_⟩
    show Wn (ky X xa) _ F _ ρ1 H1 (ptOf (isNilE lo) (evE cs cl lo env st1)) _
    rw [e2]
    intro ρ2 u H2 n2 s2 r2
    refine ⟨ρ2, F, st2, env, s2, er.mono (n1.trans n2), ?_⟩
    show Wn (ky X xa) _ F _ ρ2 H2 (ptOf (isNilE hi) (evE cs cl hi env st2)) _
    rw [e3]
    intro ρ3 u' H3 n3 s3 r3
    cases r2; cases r3
    obtain ⟨c, e5, q⟩ := own_end (w4.nx (n1.trans (n2.trans n3))) s3
    exact ⟨_, d, c, RV.ro s3 (r1.mono (n2.trans n3)) e4, e5, q⟩
  · cases h
theorem snd_cmp2 {e : Expr} {op op' : Cp} {a b c : E} (g : Gd cs cl kk k X W xa) (ha : ∀ e, ckE k a e = true → Snd X W xa e (evE cs cl a)) (hb : ∀ e, ckE k b e = true → Snd X W xa e (evE cs cl b)) (hc : ∀ e, ckE k c e = true → Snd X W xa e (evE cs cl c)) (h : ckE k (.cmp2 op op' a b c) e = true) : Snd X W xa e (evE cs cl (.cmp2 op op' a b c)) := by
  have hu : X.A.units + 64 < cLine := by have := g.units; omega
  unfold ckE at h
  split at h
  · simp only [Bool.and_eq_true, decide_eq_true_eq] at h
    obtain ⟨⟨⟨⟨⟨⟨rfl, rfl⟩, h1⟩, h2⟩, h3⟩, h4⟩, h5⟩ := h
    have rdg : ∀ {σ : L2.St} {H : Hp} {Q : VK}, tV (ky X xa) W (evE cs cl (.cmp2 op op' a b c)) σ H Q → tChain (rCmp X.K op) (rCmp X.K op') (tV (ky X xa) W (evE cs cl a)) (tV (ky X xa) W (evE cs cl b)) (tV (ky X xa) W (evE cs cl c)) σ H Q := by
      rintro σ H Q ⟨ρ, F, st, env, s, er, w⟩
      simp only [evE] at w
      refine ⟨ρ, F, st, env, s, er, w.bnd fun x st1 e1 w ρ1 v H1 n1 s1 r1 => ?_⟩
      refine ⟨ρ1, F, st1, env, s1, er.mono n1, w.bndN n1 fun y st2 e2 w ρ2 u H2 n2 s2 r2 => ?_⟩
      obtain ⟨x', e3, w⟩ := w.asD
      obtain ⟨y', e4, w⟩ := w.asD
      have q1 := RV.ro s2 (r1.mono n2) e3
      have q2 := RV.ro s2 r2 e4
      split at w
      · rename_i e5
        refine ⟨_, x', y', true, q1, q2, e5, true, rfl, ?_⟩
        refine ⟨ρ2, F, st2, env, s2, er.mono (n1.trans n2), w.bndN (n1.trans n2) fun z st3 e6 w ρ3 u3 H3 n3 s3 r3 => ?_⟩
        obtain ⟨y2, e7, w⟩ := w.asD
        obtain ⟨z', e8, w⟩ := w.asD
        obtain ⟨cc, e9, q⟩ := (w.nx (n1.trans (n2.trans n3))).lift s3
        obtain ⟨t, e10, rfl⟩ := Option.map_eq_some_iff.mp e9
        exact ⟨_, y2, z', t, RV.ro s3 (r2.mono n3) e7, RV.ro s3 r3 e8, e10, q _ _ (.old (.bl t))⟩
      · rename_i e5
        exact ⟨_, x', y', false, q1, q2, e5, false, rfl, (w.nx (n1.trans n2)).fin s2 (.bl _)⟩
      · exact w.elim
    refine ⟨PE.weak (pe_chain (op_cmp hu op) (op_cmp hu op') (ha _ h1).pe (hb _ h2).pe (hc _ h3).pe (show lastMarks [cpOf op, cpOf op'] [_, _] = false from inPlain h5 _)) fun σ H Q w => rdg w, fun _ => PT.weak (pt_chain (op_cmp hu op) (op_cmp hu op') (ha _ h1).pe (hb _ h2).pe (hc _ h3).pe (show lastMarks [cpOf op, cpOf op'] [_, _] = false from inPlain h5 _)) fun σ H Q w => ?_, fun _ _ _ z => (by cases z)⟩
    obtain ⟨ρ, F, st, env, s, er, w⟩ := w
    refine rdg ⟨ρ, F, st, env, s, er, ?_⟩
    cases e1 : evE cs cl (.cmp2 op op' a b c) env st with
    | no => rw [e1] at w; exact w.elim
    | ex c9 f9 s9 => rw [e1] at w; exact w
    | ok v st1 =>
      rw [e1] at w
      intro ρ1 x H1 n1 s1 r1
      obtain ⟨t, h1, h2, h3⟩ := w.tru n1 s1 r1
      have hv : v = .d (.bool t) := by
        simp only [evE] at e1
        cases ea : evE cs cl a env st with
        | no => rw [ea] at e1; cases e1
        | ex c9 f9 s9 => rw [ea] at e1; cases e1
        | ok xa sa =>
          rw [ea, bnd_ok] at e1
          cases eb : evE cs cl b env sa with
          | no => rw [eb] at e1; cases e1
          | ex c9 f9 s9 => rw [eb] at e1; cases e1
          | ok xb sb =>
            rw [eb, bnd_ok] at e1
            unfold asD at e1
            cases er1 : rd sb xa with
            | none => rw [er1] at e1; cases e1
            | some da =>
              rw [er1] at e1
              simp only [bnd_ok] at e1
              cases er2 : rd sb xb with
              | none => rw [er2] at e1; cases e1
              | some db =>
                rw [er2] at e1
                simp only [bnd_ok] at e1
                split at e1
                · cases ec : evE cs cl c env sb with
                  | no => rw [ec] at e1; cases e1
                  | ex c9 f9 s9 => rw [ec] at e1; cases e1
                  | ok xc sc =>
                    rw [ec, bnd_ok] at e1
                    cases er3 : rd sc xb with
                    | none => rw [er3] at e1; cases e1
                    | some db2 =>
                      rw [er3] at e1
                      simp only [bnd_ok] at e1
                      cases er4 : rd sc xc with
                      | none => rw [er4] at e1; cases e1
                      | some dc =>
                        rw [er4] at e1
                        simp only [bnd_ok] at e1
                        cases em : cmpD op' db2 dc with
                        | none => rw [em] at e1; cases e1
                        | some tt =>
                          rw [em] at e1
                          cases e1
                          cases h2
                          rfl
                · cases e1
                  cases h2
                  rfl
                · cases e1
      subst hv
      cases r1
      exact ⟨t, rfl, h3⟩
  · cases h
end
end Ev
end
section
set_option maxRecDepth 100000
set_option maxHeartbeats 2000000
/-! isinstance of a caught exception, its fields -/
namespace Ev
open PySem PySem.Spec PyProof.Rows L2
section
variable {cs : List D} {cl : Nat → List Vl → Sto → Res Vl} {kk : Nat} {k : Ck} {X : Cx} {W : WX} {xa : Option (Addr × Addr × Addr)}
theorem dict_at {pins : List (Addr × Obj)} {σ : L2.St} {H : Hp} {s : Shared} {d : Addr} {gs : List (Str × V)} (I : Inv X pins σ H s) (e : H d = some (.xd gs)) : ∃ (od : Obj) (mA : Str → Option Value), s.heap.get? d = some od ∧ (∀ f, RelO (gs.lookup f) (mA f)) ∧ ∀ f, PySem.W.lookIn f od = some (mA f) := by
  have hx : ObjOk X.prog X.w H s.heap d (.xd gs) := I.hok d _ e
  obtain ⟨mA, hn, hr⟩ := hx
  obtain ⟨od, ho, hl⟩ := lookIn_ns hn
  exact ⟨od, mA, ho, hr, hl⟩
theorem inst_at {pins : List (Addr × Obj)} {σ : L2.St} {H : Hp} {s : Shared} {a C d : Addr} {oe : Obj} {gs : List (Str × V)} (I : Inv X pins σ H s) (hp : (a, oe) ∈ X.pn) (h1 : L2H.Hot1 X.A (a, oe)) (h2 : oe.cls = .ref C) (h3 : oe.dict = some d) (e : H d = some (.xd gs)) : ∃ od, PySem.W.InstAt s.heap a oe C (some od) := by
  obtain ⟨od, mA, ho, _, _⟩ := dict_at I e
  obtain ⟨hg, _⟩ := I.pin (a, oe) (List.mem_append_left _ hp)
  obtain ⟨_, vs, hv, _⟩ := h1
  have hv : oe.data = .fields vs := hv
  refine ⟨od, hg, h2, ?_, by rw [h3]; exact ho⟩
  unfold PySem.W.notCls
  rw [hv]
theorem kitx_x {K : PySem.W.Frag} {a C : Addr} {oe : Obj} {od : Option Obj} (hc : (PySem.W.clsIn K C).isSome = true) (E : ExcC K C) : PySem.W.KitX K (.ref a) (.ref C) (fun h => PySem.W.InstAt h a oe C od) :=
  PySem.W.kitx_exc hc E.hg E.hk E.hs E.ha E.hn E.ht E.hm
/-- isinstance(e, c) -/
def rIs1 (K : PySem.W.Frag) (C a d : Addr) : List V → Hp → VK → Prop := fun xs H Q => ∃ (c : V) (cv : Value) (b : Bool) (gs : List (Str × V)), xs = [.ref a, c] ∧ (∀ u, RelV c u → u = cv) ∧ H d = some (.xd gs) ∧ PySem.W.kitOne K (.ref C) cv = some b ∧ Q (.bl b) H
theorem call_is1 {a C d : Addr} {oe : Obj} (hc : (PySem.W.clsIn X.K C).isSome = true) (E : ExcC X.K C) (hp : (a, oe) ∈ X.pn) (h1 : L2H.Hot1 X.A (a, oe)) (h2 : oe.cls = .ref C) (h3 : oe.dict = some d) : CallR X (.builtin "isinstance") (rIs1 X.K C a d) := by
  intro pins s σ H xs us Q I r h
  obtain ⟨c, cv, b, gs, rfl, hcv, e, hk, q⟩ := h
  cases r with
  | cons rx rr =>
    cases rr with
    | cons rt rr =>
      cases rr
      cases rx
      have ec := hcv _ rt
      subst ec
      obtain ⟨od, J⟩ := inst_at I hp h1 h2 h3 e
      exact PySem.W.kia_one (kitx_x hc E) I.kIn J hk (fun z => nomatch z) fun tk => ⟨.bl b, H, I.kept (t' := tk) fun _ _ z => z, rfl, q⟩
/-- isinstance(e, (c, ..)) -/
def rIsN (K : PySem.W.Frag) (C a d : Addr) : List V → Hp → VK → Prop := fun xs H Q => ∃ (tp : Addr) (vs : List V) (cvs : List Value) (b : Bool) (gs : List (Str × V)), xs = [.ref a, .ref tp] ∧ H tp = some (.tup vs) ∧ (∀ us, Vals vs us → us = cvs) ∧ H d = some (.xd gs) ∧ PySem.W.kitAny K (.ref C) cvs = some b ∧ Q (.bl b) H
theorem call_isN {a C d : Addr} {oe : Obj} (hc : (PySem.W.clsIn X.K C).isSome = true) (E : ExcC X.K C) (hp : (a, oe) ∈ X.pn) (h1 : L2H.Hot1 X.A (a, oe)) (h2 : oe.cls = .ref C) (h3 : oe.dict = some d) : CallR X (.builtin "isinstance") (rIsN X.K C a d) := by
  intro pins s σ H xs us Q I r h
  obtain ⟨tp, vs, cvs, b, gs, rfl, ht, hcv, e, hk, q⟩ := h
  cases r with
  | cons rx rr =>
    cases rr with
    | cons rt rr =>
      cases rr
      cases rx
      cases rt
      obtain ⟨od, J⟩ := inst_at I hp h1 h2 h3 e
      have ot : ObjOk X.prog X.w H s.heap tp (.tup vs) := I.hok tp _ ht
      obtain ⟨z, ws, rw', o, go, g1, n, g2⟩ := ot
      have ew := hcv _ rw'
      subst ew
      obtain ⟨oc, odd, odt, osl⟩ := o
      dsimp only at g1 g2
      subst g1 g2
      exact PySem.W.kia_tup (kitx_x hc E) I.kIn J go hk (fun z => nomatch z) fun tk => ⟨.bl b, H, I.kept (t' := tk) fun _ _ z => z, rfl, q⟩
theorem relNm {mg : Str → Option Value} {n : Str} {v : V} {cv : Value} (h : NmV mg n v cv) : ∀ u, RelV v u → u = cv := by
  rcases h with ⟨A, _, rfl, rfl⟩ | ⟨s, _, _, rfl, rfl⟩
  · intro u r; exact r
  · intro u r; exact r
theorem pe_nm {n : Str} {v : V} {cv : Value} {p : Pos} (g : Gd cs cl kk k X W xa) (hg : glB k.sc n = true) (h : NmV X.mg n v cv) : PE X (.Name n p) (tC v) := by
  obtain ⟨g1, g2, g3⟩ := g.gl hg
  rcases h with ⟨A, m, rfl, rfl⟩ | ⟨s, m, bt, rfl, rfl⟩
  · exact pe_glob g1 m rfl g2
  · exact pe_bltn g1 m bt rfl g3 g2
inductive All2 {α β : Type} (R : α → β → Prop) : List α → List β → Prop
  | nil : All2 R [] []
  | cons {x : α} {y : β} {xs : List α} {ys : List β} : R x y → All2 R xs ys → All2 R (x :: xs) (y :: ys)
theorem pa_nms (g : Gd cs cl kk k X W xa) : ∀ {ns : List Str} {ts : List Expr} {vs : List V}, clsNs k.sc ns ts = true → All2 (fun n v => ∃ cv, NmV X.mg n v cv) ns vs → ∃ t : TA, PA X ts t ∧ ∀ σ H Q, Q vs H → t σ H Q
  | [], [], _, _, .nil => ⟨_, pa_nil, fun _ _ _ q => q⟩
  | [], _ :: _, _, h, _ => by simp [clsNs] at h
  | _ :: _, [], _, h, _ => by simp [clsNs] at h
  | n :: ns, t :: ts, _, h, .cons ⟨cv, hv⟩ r => by
    simp only [clsNs, Bool.and_eq_true] at h
    obtain ⟨h1, h2⟩ := h
    split at h1
    · simp only [Bool.and_eq_true, decide_eq_true_eq] at h1
      obtain ⟨rfl, h3⟩ := h1
      obtain ⟨t2, p2, q2⟩ := pa_nms g h2 r
      exact ⟨_, pa_cons (pe_nm g h3 hv) p2, fun σ H Q q => q2 σ H _ q⟩
    · cases h1
/-- the classes by their names -/
theorem xs_all {c : Str} {C : Addr} (T : XT X.prog X.w X.K X.mg X.base cs k.XN k.FL k.CL) (xc : XC X.K c C) : ∀ {ns : List Str} {b : Bool}, xsubs cs c ns = some b → ∃ (vs : List V) (cvs : List Value), All2 (fun n v => ∃ cv, NmV X.mg n v cv) ns vs ∧ (∀ us, Vals vs us → us = cvs) ∧ PySem.W.kitAny X.K (.ref C) cvs = some b ∧ PySem.W.exmAny X.K (.ref C) cvs = some b ∧ vs.length = ns.length
  | [], b, h => by
    cases h
    exact ⟨[], [], .nil, fun us r => by cases r; rfl, rfl, rfl, rfl⟩
  | n :: ns, b, h => by
    unfold xsubs at h
    cases e1 : xsub cs c n with
    | none => rw [e1] at h; cases h
    | some b1 =>
      cases e2 : xsubs cs c ns with
      | none => rw [e1, e2] at h; cases h
      | some b2 =>
        rw [e1, e2] at h
        cases h
        obtain ⟨v, cv, h1, h2, h3⟩ := T.is c n b1 C e1 xc
        obtain ⟨vs, cvs, i1, i2, i3, i4, i5⟩ := xs_all T xc e2
        refine ⟨v :: vs, cv :: cvs, .cons ⟨cv, h1⟩ i1, fun us r => ?_, ?_, ?_, by simp [i5]⟩
        · cases r with
          | cons r1 r2 => rw [relNm h1 _ r1, i2 _ r2]
        · unfold PySem.W.kitAny
          rw [h2]
          cases b1 with
          | true => rfl
          | false => exact i3
        · unfold PySem.W.exmAny
          rw [h3, i4]
theorem snd_isx {e : Expr} {a : E} {ns : List Str} (g : Gd cs cl kk k X W xa) (ha : ∀ e, ckE k a e = true → Snd X W xa e (evE cs cl a)) (h : ckE k (.isx a ns) e = true) : Snd X W xa e (evE cs cl (.isx a ns)) := by
  unfold ckE at h
  split at h
  · rename_i x p y t pos
    simp only [Bool.and_eq_true, decide_eq_true_eq] at h
    obtain ⟨⟨⟨⟨⟨⟨⟨hk, rfl⟩, h2⟩, h3⟩, h4⟩, h5⟩, h6⟩, h7⟩ := h
    obtain ⟨g1, g2, g3⟩ := g.gl h2
    have P := (ha _ h4).pe
    obtain ⟨ax, C, d, xs⟩ := g.xs hk
    obtain ⟨oe, o1, o2, o3, o4⟩ := g.hx ax C d xs
    refine snd_plain ⟨fun pins s σ H Q I w => ?_⟩ rfl
    obtain ⟨ρ, F, st, env, s0, er, w⟩ := w
    simp only [evE] at w
    -- what is asked is known ahead of the run
    cases ev : evE cs cl a env st with
    | no => rw [ev] at w; exact w.elim
    | ex c9 f9 s9 =>
      rw [ev] at w
      have AP : PA X [y, t] (tCons (tV (ky X xa) W (evE cs cl a)) (fun _ _ _ => False)) := pa_cons P ⟨fun pos pins s σ H Q I q => q.elim⟩ (star1 h5 _ X.env)
      refine (pe_callB (id := "isinstance") (r := fun _ _ _ => False) (fun pins s σ H xs us Q I r q => q.elim) g1 (g.blt _ h3) (by decide +kernel) AP g3 g2 (star1 h5 _ X.env) (noStars (by simp [h6]) X.env pos)).run pins s σ H Q I ?_
      refine ⟨ρ, F, st, env, s0, er, ?_⟩
      rw [ev]
      exact w
    | ok v st1 =>
      rw [ev, bnd_ok] at w
      unfold isxV at w
      cases v with
      | d _ => exact w.elim
      | r _ => exact w.elim
      | x c fs =>
       simp only at w
       cases has : ancD (ctOf cs) c with
       | none => rw [has] at w; exact w.elim
       | some as =>
        rw [has] at w
        simp only at w
        cases e2 : xsubs cs c ns with
        | none => rw [e2] at w; exact w.elim
        | some b =>
          rw [e2] at w
          have w2 : Wn (ky X xa) (fun c d => W c d σ) F (relV (ky X xa) F) ρ H (.ok (.d (.bool b)) st1) Q := w
          -- the class of the exception
          by_cases hC : XC X.K c C
          · have xc := hC
            obtain ⟨k1, k2, k3⟩ := g.xt.ex c as C has xc
            obtain ⟨vs, cvs, i1, i2, i3, i4, i5⟩ := xs_all (k := k) g.xt xc e2
            have rdv : ∀ (R : V → Hp → Prop), (∀ H1 gs ρ1, Nx ρ H ρ1 H1 → SR X.K H1 ρ1 F st1 → H1 d = some (.xd gs) → R (.ref ax) H1) → tV (ky X xa) W (evE cs cl a) σ H R := fun R q => by
              refine ⟨ρ, F, st, env, s0, er, ?_⟩
              rw [ev]
              intro ρ1 u H1 n1 s1 r1
              obtain ⟨a2, C2, d2, z1, rfl, z3, z4⟩ := r1
              have z1 : xa = some (a2, C2, d2) := z1
              rw [xs] at z1
              cases z1
              obtain ⟨_, gs, e, _⟩ := z4
              exact q H1 gs ρ1 n1 s1 e
            unfold clsT at h7
            split at h7
            · rename_i n pn
              simp only [Bool.and_eq_true, decide_eq_true_eq] at h7
              obtain ⟨rfl, h8⟩ := h7
              cases i1 with
              | cons hv r =>
                cases r
                obtain ⟨cv, hv⟩ := hv
                have AP := pa_cons P (pa_cons (pe_nm (p := pn) g h8 hv) pa_nil) (star1 h5 _ X.env)
                refine (pe_callB (call_is1 k1 k2 o1 o2 o3 o4) g1 (g.blt _ h3) (by decide +kernel) AP g3 g2 (star1 h5 _ X.env)).run pins s σ H Q I ?_
                refine rdv _ fun H1 gs ρ1 n1 s1 e => ?_
                have ecv : cvs = [cv] := by
                  have nd : ∀ {m : Str} {v : V}, NmV X.mg m v cv → ∃ u, RelV v u ∧ u = cv := fun {m v} z => by
                    rcases z with ⟨A, _, rfl, rfl⟩ | ⟨s, _, _, rfl, rfl⟩
                    · exact ⟨_, rfl, rfl⟩
                    · exact ⟨_, rfl, rfl⟩
                  obtain ⟨u, r1, rfl⟩ := nd hv
                  exact (i2 [u] (.cons r1 .nil)).symm
                subst ecv
                have k1 : PySem.W.kitOne X.K (.ref C) cv = some b := by
                  unfold PySem.W.kitAny at i3
                  cases ek : PySem.W.kitOne X.K (.ref C) cv with
                  | none => rw [ek] at i3; cases i3
                  | some b1 => rw [ek] at i3; cases b1 <;> exact i3
                exact ⟨_, cv, b, gs, rfl, relNm hv, e, k1, w2 ρ1 _ H1 n1 s1 (.bl b)⟩
            · rename_i ts kt pt
              simp only [Bool.and_eq_true, decide_eq_true_eq] at h7
              obtain ⟨tt, p2, q2⟩ := pa_nms g h7.1 i1
              have AP := pa_cons P (pa_cons (pe_tup (x1 := kt) (pos := pt) p2) pa_nil) (star1 h5 _ X.env)
              refine (pe_callB (call_isN k1 k2 o1 o2 o3 o4) g1 (g.blt _ h3) (by decide +kernel) AP g3 g2 (star1 h5 _ X.env)).run pins s σ H Q I ?_
              refine rdv _ fun H1 gs ρ1 n1 s1 e => q2 σ H1 _ ⟨?_, fun p hp => ?_⟩
              · rw [i5]
                exact Nat.le_of_lt (small1000 h7.2)
              · have n2 := s1.nxNew (o := .tup vs) hp
                refine ⟨p, vs, cvs, b, gs, rfl, upd_same, i2, by rw [upd_ne (ne_of_none e hp)]; exact e, i3, ?_⟩
                exact w2 ρ1 _ _ (n1.trans n2) (s1.new hp) (.bl b)
            · cases h7
          · -- no such class: what is asked never comes
            have no : ∀ R, tV (ky X xa) W (evE cs cl a) σ H R := fun R => by
              refine ⟨ρ, F, st, env, s0, er, ?_⟩
              rw [ev]
              intro ρ1 u H1 n1 s1 r1
              obtain ⟨a2, C2, d2, z1, rfl, z3, z4⟩ := r1
              have z1 : xa = some (a2, C2, d2) := z1
              rw [xs] at z1
              cases z1
              exact absurd z3 hC
            have AP : PA X [y, t] (tCons (tV (ky X xa) W (evE cs cl a)) (fun _ _ _ => False)) := pa_cons P ⟨fun pos pins s σ H Q I q => q.elim⟩ (star1 h5 _ X.env)
            exact (pe_callB (id := "isinstance") (r := fun _ _ _ => False) (fun pins s σ H xs us Q I r q => q.elim) g1 (g.blt _ h3) (by decide +kernel) AP g3 g2 (star1 h5 _ X.env) (noStars (by simp [h6]) X.env pos)).run pins s σ H Q I (no _)
  · cases h
theorem snd_fld {e : Expr} {a : E} {f : Str} (g : Gd cs cl kk k X W xa) (ha : ∀ e, ckE k a e = true → Snd X W xa e (evE cs cl a)) (h : ckE k (.fld a f) e = true) : Snd X W xa e (evE cs cl (.fld a f)) := by
  unfold ckE at h
  split at h
  · rename_i y f2 pos
    simp only [Bool.and_eq_true, decide_eq_true_eq] at h
    obtain ⟨⟨⟨⟨hk, rfl⟩, h2⟩, h3⟩, h4⟩ := h
    have P := (ha _ h3).pe
    obtain ⟨ax, C, d, xs⟩ := g.xs hk
    obtain ⟨oe, o1, o2, o3, o4⟩ := g.hx ax C d xs
    refine snd_plain ⟨fun pins s σ H Q I w => ?_⟩ rfl
    obtain ⟨ρ, F, st, env, s0, er, w⟩ := w
    simp only [evE] at w
    have rdv : tV (ky X xa) W (evE cs cl a) σ H (fun u H1 => u = .ref ax ∧ ∃ gs v, H1 d = some (.xd gs) ∧ gs.lookup f2 = some v ∧ ExcC X.K C ∧ PySem.W.findIn X.K (.ref C) f2 = some none ∧ Q v H1) := by
      refine ⟨ρ, F, st, env, s0, er, w.bnd fun v st1 e1 w ρ1 u H1 n1 s1 r1 => ?_⟩
      unfold fldV at w
      cases v with
      | d _ => exact w.elim
      | r _ => exact w.elim
      | x c fs =>
        obtain ⟨a2, C2, d2, z1, rfl, z3, z4⟩ := r1
        have z1 : xa = some (a2, C2, d2) := z1
        rw [xs] at z1
        cases z1
        simp only at w
        cases has : ancD (ctOf cs) c with
        | none => rw [has] at w; exact w.elim
        | some as =>
          rw [has] at w
          obtain ⟨x, e2, q⟩ := (w.nx n1).lift s1
          obtain ⟨_, gs, e, q4⟩ := z4
          obtain ⟨v, e3, r3⟩ := q4 _ _ e2
          obtain ⟨k1, k2, k3⟩ := g.xt.ex c as _ has z3
          exact ⟨rfl, gs, v, e, e3, k2, k3 _ h2, q v H1 (.old r3)⟩
    refine attr_of (basePlain h4 f2 X.env) (thn (P.run pins s σ H _ I rdv) fun u s1 hh => ?_)
    obtain ⟨x, H1, I1, rx, ex, gs, v, e1, e2, E, hno, q⟩ := hh
    subst ex
    cases rx
    obtain ⟨od, J⟩ := inst_at I1 o1 o2 o3 o4 e1
    obtain ⟨od2, mA, ho, hr, hl⟩ := dict_at I1 e1
    have same : od = od2 := by
      obtain ⟨_, _, _, z⟩ := id J
      rw [o4] at z
      have z : s1.heap.get? d = some od := z
      rw [ho] at z
      exact (Option.some.inj z).symm
    subst same
    obtain ⟨u, hu, ru⟩ := RelO.some_of (v := v) (o := mA f2) (by rw [← e2]; exact hr f2)
    exact HandSPX.exc_get I1.kIn J E.hg E.hk E.hs (PySem.W.findObj_own E.hd hno rfl (by rw [hl, hu])) (handed_of ru) ⟨v, H1, I1.tok _, ru, q⟩
  · cases h
end
end Ev
end
section
set_option maxRecDepth 10000
namespace Ev
open PySem PySem.Spec PyProof.Rows L2
section
variable {cs : List D} {cl : Nat → List Vl → Sto → Res Vl} {kk : Nat} {k : Ck} {X : Cx} {W : WX} {xa : Option (Addr × Addr × Addr)}
/-! ### methods of lists -/
theorem countV {K : PySem.W.Frag} {H : Hp} {B : List Addr} {u : V} {y : D} (h2 : Ro K H B u y) (f2 : flatD y = true) : ∀ {vs : List V} {xs : List D} {us : List Value}, RpA K H B vs xs → xs.all flatD = true → Vals vs us → us.countP (eqU u) = xs.countP fun x => PyData.eqv x y
  | _, _, _, .nil, _, .nil => rfl
  | _, _, _, .cons h r, f, .cons rv rr => by
    simp only [List.all_cons, Bool.and_eq_true] at f
    rw [List.countP_cons, List.countP_cons, countV h2 f2 r f.2 rr, eqU_of rv (flat_of h f.1), eqV_eqv h h2 f.1 f2]
def rMth (K : Ky) (m : Mt) : V → List V → Hp → VK → Prop := fun v vs H Q => ∃ (Z : XK) (ρ F : List Addr) (st : Sto) (x : Vl) (xs : List Vl), SR K H ρ F st ∧ RV K H F ρ v x ∧ RVs K H F ρ vs xs ∧ Wn K Z F (relV K F) ρ H (mthD m x xs st) Q
theorem no_tup {H : Hp} {p : Addr} {xs : List V} (h : H p = some (.lst xs)) : ∀ ys, ¬ Rd H p (.tup ys) := fun ys z => by
  rcases z with z | ⟨o, z⟩ <;> (rw [h] at z; cases z)
def mtId : Mt → String
  | .append => "list.append" | .extend => "list.extend" | .count => "list.count" | .pop => "list.pop" | .insert => "list.insert"
theorem mt_all (m : Mt) : MtR X (mtId m) (rMth (ky X xa) m) := by
  intro pins s σ H v vs u us Q I rv rvs h
  obtain ⟨Z, ρ, F, st, x, xs, s0, r0, ra, w⟩ := h
  unfold mthD at w
  split at w
  · rename_i n y
    split at w
    · rename_i xs e1
      split at w
      · rename_i hz
        obtain ⟨a, ea, rfl⟩ := r0
        cases ra with
        | cons ry ra =>
          cases ra
          obtain ⟨ys, hH, rr⟩ := s0.obj n _ a e1 ea
          have nt := no_tup hH
          have hp : a ∈ ρ := List.mem_of_getElem? ea
          refine mt_append pins s σ H _ _ u us Q I rv rvs ⟨a, ys, _, rfl, rfl, hH, by rw [rr.length]; exact hz, ?_⟩
          exact w ρ _ _ (s0.nxSet hp nt) (s0.setS ea nt ⟨_, upd_same, (rr.append (.cons ry .nil)).mono (s0.nxSet hp nt)⟩) .non
      · exact w.elim
    · exact w.elim
  · rename_i n y
    split at w
    · rename_i xs ys e1 e2
      split at w
      · rename_i hz
        obtain ⟨a, ea, rfl⟩ := r0
        cases ra with
        | cons ry ra =>
          cases ra
          obtain ⟨b, zs, rfl, lb, rb⟩ := RV.ro s0 ry e2
          obtain ⟨ws, hH, rr⟩ := s0.obj n _ a e1 ea
          have nt := no_tup hH
          have hp : a ∈ ρ := List.mem_of_getElem? ea
          cases rv
          obtain ⟨u2, rfl, ru⟩ := rvs.one
          cases ru
          obtain ⟨z, its, m1, v1, l1, o1⟩ := I.lstM hH
          obtain ⟨its2, m2, v2, o2, z2⟩ := lb.obj I
          have k1 := rr.length
          have k2 := rb.length
          have k3 := v2.length
          have big : its.toArray.size + its2.toArray.size ≤ sizeLine := by simp only [List.size_toArray]; omega
          have few : ¬ (!its.toArray.isEmpty && Builtin.List.listTooLong (its.toArray.size + its2.toArray.size)) = true := by
            rw [notLongL big, Bool.and_false]
            exact Bool.false_ne_true
          refine call_meets PySem.F.slot_list_extend ⟨_, o1, rfl⟩ PySem.F.entry_list_extend (PySem.F.args_list_extend_2 _ _) (AutoSeq1.list_extend_list_list_0 a its.toArray m1 b its2.toArray m2 few (by simp only [List.size_toArray]; omega) (by omega)) ⟨o1, o2, ?_⟩
          refine ⟨.non, _, I.lset (ys := ws ++ zs) (its' := its ++ its2) hH o1 (by simp) (v1.append v2) (by simp only [List.length_append]; omega), rfl, ?_⟩
          exact w ρ _ _ (s0.nxSet hp nt) (s0.setS ea nt ⟨_, upd_same, (rr.append rb).mono (s0.nxSet hp nt)⟩) .non
      · exact w.elim
    · exact w.elim
  · rename_i v0 w0
    split at w
    · rename_i xs y e1 e2
      split at w
      · rename_i hf
        rw [Bool.and_eq_true] at hf
        obtain ⟨a, ws, rfl, la, rr⟩ := RV.ro s0 r0 e1
        cases ra with
        | cons ry ra =>
          cases ra
          have ro := RV.ro s0 ry e2
          cases rv
          obtain ⟨u2, rfl, ru⟩ := rvs.one
          obtain ⟨its, m1, v1, o1, z1⟩ := la.obj I
          refine call_meets PySem.F.slot_list_count ⟨_, o1, rfl⟩ PySem.F.entry_list_count (PySem.F.args_list_count_2 _ _) (SeqAt.list_countAt a its.toArray m1 none #[] u2 (eqU _)) ⟨o1, fun y hy => mem_eqAt ru (ro_flat ro hf.2) v1 (flat_all rr hf.1) y (by simpa using hy), ?_⟩
          refine ⟨.int _, H, I.tok _, ⟨s.toks, ?_⟩, w.fin s0 (.int _)⟩
          rw [← countV ro hf.2 rr hf.1 v1]
      · exact w.elim
    · exact w.elim
  · rename_i n
    split at w
    · rename_i xs e1
      split at w
      · rename_i y e2
        obtain ⟨a, ea, rfl⟩ := r0
        cases ra
        obtain ⟨ys, hH, rr⟩ := s0.obj n _ a e1 ea
        have nt := no_tup hH
        have hp : a ∈ ρ := List.mem_of_getElem? ea
        rw [← rr.length] at e2
        obtain ⟨vy, q1, q2⟩ := rr.get e2
        refine mt_pop pins s σ H _ _ u us Q I rv rvs ⟨a, ys, vy, rfl, rfl, hH, q1, ?_⟩
        exact w ρ _ _ (s0.nxSet hp nt) (s0.setS ea nt ⟨_, upd_same, (rr.dropLast).mono (s0.nxSet hp nt)⟩) (Rp.mono (s0.nxSet hp nt) q2)
      · exact w.elim
    · exact w.elim
  · rename_i n i
    split at w
    · rename_i xs e1
      split at w
      · rename_i hi
        split at w
        · rename_i y e2
          obtain ⟨a, ea, rfl⟩ := r0
          cases ra with
          | cons ri ra =>
            cases ra
            cases ri
            obtain ⟨ys, hH, rr⟩ := s0.obj n _ a e1 ea
            have nt := no_tup hH
            have hp : a ∈ ρ := List.mem_of_getElem? ea
            obtain ⟨vy, q1, q2⟩ := rr.get e2
            have hk : seqIndex? i ys.length = some i.toNat := by
              have hq := (List.getElem?_eq_some_iff.mp q1).1
              have h1 : ¬ i < 0 := by omega
              have h2 : 0 ≤ i ∧ i < (ys.length : Int) := by omega
              unfold seqIndex?
              simp [h1, h2]
            refine mt_popAt pins s σ H _ _ u us Q I rv rvs ⟨a, ys, i, i.toNat, vy, rfl, rfl, hH, by omega, by omega, hk, q1, ?_⟩
            exact w ρ _ _ (s0.nxSet hp nt) (s0.setS ea nt ⟨_, upd_same, RpA.mono (s0.nxSet hp nt) (rr.erase _)⟩) (Rp.mono (s0.nxSet hp nt) q2)
        · exact w.elim
      · exact w.elim
    · exact w.elim
  · rename_i n i y
    split at w
    · rename_i xs e1
      split at w
      · rename_i hi
        obtain ⟨a, ea, rfl⟩ := r0
        cases ra with
        | cons ri ra =>
          cases ra with
          | cons ry ra =>
            cases ra
            cases ri
            obtain ⟨ys, hH, rr⟩ := s0.obj n _ a e1 ea
            have nt := no_tup hH
            have hp : a ∈ ρ := List.mem_of_getElem? ea
            refine mt_insert pins s σ H _ _ u us Q I rv rvs ⟨a, ys, i, _, rfl, rfl, hH, by rw [rr.length]; exact hi.2.2, hi.1, by omega, ?_⟩
            exact w ρ _ _ (s0.nxSet hp nt) (s0.setS ea nt ⟨_, upd_same, RpA.mono (s0.nxSet hp nt) (RpA.append (RpA.append (rr.take _) (.cons ry .nil)) (rr.drop _))⟩) .non
      · exact w.elim
    · exact w.elim
  · exact w.elim
theorem snd_mth {e : Expr} {m : Mt} {o : E} {es : Es} (ho : ∀ e, ckE k o e = true → Snd X W xa e (evE cs cl o)) (ha : ∀ xs, ckEs k es xs = true → SndA X W xa xs (evEs cs cl es)) (h : ckE k (.mth m o es) e = true) : Snd X W xa e (evE cs cl (.mth m o es)) := by
  unfold ckE at h
  split at h
  · rename_i ob name apos args cpos
    simp only [Bool.and_eq_true, decide_eq_true_eq] at h
    obtain ⟨⟨⟨⟨⟨rfl, h1⟩, h2⟩, h3⟩, h4⟩, h5⟩ := h
    have O := (ho _ h1).pe
    have A := ha _ h5
    have base := basePlain h2 (mtName m) X.env
    have ty : ∀ {ρ F : List Addr} {st : Sto} {H : Hp} {v : V} {x : Vl}, SR X.K H ρ F st → RV (ky X xa) H F ρ v x → isLst x st = true → tyV X.K "list" v H := by
      intro ρ F st H v x s0 r0 q
      unfold isLst at q
      split at q
      · rename_i ys e1
        obtain ⟨a, ws, rfl, l, rr⟩ := RV.ro s0 r0 e1
        exact .inl ⟨rfl, ws, l.sq⟩
      · cases q
    cases args with
    | nil =>
      have rule : PE X (.Call (.Attribute ob (mtName m) apos) [] [] cpos) (tBM0 X.K "list" (rMth (ky X xa) m) (tV (ky X xa) W (evE cs cl o))) := by
        cases m with
        | append => exact pe_bm0 PySem.F.plainAttrs_list PySem.F.slot_list_append PySem.F.type_list_append (mt_all .append) O base h3
        | extend => exact pe_bm0 PySem.F.plainAttrs_list PySem.F.slot_list_extend PySem.F.type_list_extend (mt_all .extend) O base h3
        | count => exact pe_bm0 PySem.F.plainAttrs_list PySem.F.slot_list_count PySem.F.type_list_count (mt_all .count) O base h3
        | pop => exact pe_bm0 PySem.F.plainAttrs_list PySem.F.slot_list_pop PySem.F.type_list_pop (mt_all .pop) O base h3
        | insert => exact pe_bm0 PySem.F.plainAttrs_list PySem.F.slot_list_insert PySem.F.type_list_insert (mt_all .insert) O base h3
      refine snd_plain (PE.weak rule ?_) rfl
      rintro σ H Q ⟨ρ, F, st, env, s, er, w⟩
      simp only [evE] at w
      refine ⟨ρ, F, st, env, s, er, w.bnd fun v st1 e1 w ρ1 u H1 n1 s1 r1 => ?_⟩
      cases q : isLst v st1 with
      | false => rw [q] at w; exact w.elim
      | true =>
        rw [q, sel_tt] at w
        refine ⟨ty s1 r1 q, ?_⟩
        cases es with
        | cons c r => simp [ckEs] at h5
        | nil =>
          simp only [evEs, bnd_ok] at w
          exact ⟨_, ρ1, F, st1, v, [], s1, r1, .nil, w.nx n1⟩
    | cons y ys =>
      have ns := A.ns
      have ns2 := ns
      simp only [List.all_cons, Bool.and_eq_true] at ns
      have few : ((backTo cpos (starEach (y :: ys) X.env)).all (fun x => !x.1) && (backToKw cpos (keywordEach [] X.env)).all (fun x => x.1.isSome) && decide ((y :: ys).length + ([] : List Keyword).length + (if ([] : List Keyword).isEmpty then 0 else 1) < 30)) = true := by
        rw [starAll ns2]
        simp [backTo, backToKw, keywordEach]
        simpa using h4
      have rule : PE X (.Call (.Attribute ob (mtName m) apos) (y :: ys) [] cpos) (tBM X.K "list" (rMth (ky X xa) m) (tV (ky X xa) W (evE cs cl o)) (tVs (ky X xa) W (evEs cs cl es))) := by
        cases m with
        | append => exact pe_bm PySem.F.plainAttrs_list PySem.F.slot_list_append PySem.F.type_list_append (mt_all .append) O A.pa base few h3 (star1 ns.1 ys X.env) (noStars ns.2 X.env cpos)
        | extend => exact pe_bm PySem.F.plainAttrs_list PySem.F.slot_list_extend PySem.F.type_list_extend (mt_all .extend) O A.pa base few h3 (star1 ns.1 ys X.env) (noStars ns.2 X.env cpos)
        | count => exact pe_bm PySem.F.plainAttrs_list PySem.F.slot_list_count PySem.F.type_list_count (mt_all .count) O A.pa base few h3 (star1 ns.1 ys X.env) (noStars ns.2 X.env cpos)
        | pop => exact pe_bm PySem.F.plainAttrs_list PySem.F.slot_list_pop PySem.F.type_list_pop (mt_all .pop) O A.pa base few h3 (star1 ns.1 ys X.env) (noStars ns.2 X.env cpos)
        | insert => exact pe_bm PySem.F.plainAttrs_list PySem.F.slot_list_insert PySem.F.type_list_insert (mt_all .insert) O A.pa base few h3 (star1 ns.1 ys X.env) (noStars ns.2 X.env cpos)
      refine snd_plain (PE.weak rule ?_) rfl
      rintro σ H Q ⟨ρ, F, st, env, s, er, w⟩
      simp only [evE] at w
      refine ⟨ρ, F, st, env, s, er, w.bnd fun v st1 e1 w ρ1 u H1 n1 s1 r1 => ?_⟩
      cases q : isLst v st1 with
      | false => rw [q] at w; exact w.elim
      | true =>
        rw [q, sel_tt] at w
        refine ⟨ty s1 r1 q, ρ1, F, st1, env, s1, er.mono n1, w.bndN n1 fun xs st2 e2 w ρ2 us H2 n2 s2 r2 => ?_⟩
        exact ⟨_, ρ2, F, st2, v, xs, s2, r1.mono n2, r2, w.nx (n1.trans n2)⟩
  · cases h
end
end Ev
end
section
set_option maxRecDepth 10000
set_option maxHeartbeats 2000000
/-! zip of two sequences, each a list or a tuple, strict or not -/
namespace Ev
open PySem PySem.Spec PyProof.Rows L2
def SI (q : Bool) (h : Heap) (it l : Addr) (k : Nat) (vs : Array Value) : Prop := match q with
  | true => h.IsListIter it l k ∧ h.IsList l vs
  | false => h.IsTupleIter it l k ∧ h.IsTuple l vs
theorem SI.ext {q : Bool} {h h' : Heap} {it l c : Addr} {k : Nat} {vs : Array Value} (S : SI q h it l k vs) (e : Heap.ExtBut c h h') (n1 : it ≠ c) (n2 : l ≠ c) : SI q h' it l k vs := by
  cases q with
  | true => exact ⟨S.1.extBut e n1, S.2.extBut e n2⟩
  | false => exact ⟨S.1.extBut e n1, S.2.extBut e n2⟩
/-- where the iterator's own object is kept -/
theorem SI.kept {q : Bool} {h h' : Heap} {it l : Addr} {k : Nat} {vs : Array Value} (S : SI q h it l k vs) (e1 : ∀ o, h.get? it = some o → h'.get? it = some o) (e2 : ∀ o, h.get? l = some o → h'.get? l = some o) : SI q h' it l k vs := by
  cases q with
  | true =>
    obtain ⟨p, o, e, r⟩ := S
    exact ⟨p.at e1, o, e2 o e, r⟩
  | false =>
    obtain ⟨p, o, e, r⟩ := S
    exact ⟨p.at e1, o, e2 o e, r⟩
section
variable {prog : Program} {w : World} {A : Around} {E : Value → Shared → Prop} {s : Shared}
theorem si_item {q : Bool} {it l : Addr} {k : Nat} {vs : Array Value} {x : Value} {Q : Value → Shared → Prop} (S : SI q s.heap it l k vs) (ne : l ≠ it) (hx : vs[k]? = some x) (hQ : ∀ h', SI q h' it l (k + 1) vs → Heap.SameBut it s.heap h' → Q x { s with heap := h' }) :
    wpAny (model prog w) A (Builtin.SmallTypes.nextOf (.ref it)) Q E s := by
  cases q with
  | true => exact wpAny_nextOf_list_item S.1 S.2 hx fun h' p' sb => hQ h' ⟨p', S.2.extBut sb.extBut ne⟩ sb
  | false => exact RZ.nextOf_tuple_item S.1 S.2 hx fun h' p' sb => hQ h' ⟨p', S.2.extBut sb.extBut ne⟩ sb
theorem si_end {q : Bool} {it l : Addr} {k : Nat} {vs : Array Value} {Q : Value → Shared → Prop} (hh : A.handled = none) (S : SI q s.heap it l k vs) (hx : vs[k]? = none) (hE : ∀ h' e, Heap.ExtBut it s.heap h' → (∃ o, h'.get? e = some o ∧ o.cls = .type "StopIteration") → E (.ref e) { s with heap := h' }) :
    wpAny (model prog w) A (Builtin.SmallTypes.nextOf (.ref it)) Q E s := by
  cases q with
  | true => exact wpAny_nextOf_list_end hh S.1 S.2 hx hE
  | false => exact RZ.nextOf_tuple_end hh S.1 S.2 hx hE
theorem se_item {q : Bool} {it l : Addr} {k : Nat} {vs : Array Value} {x : Value} {Q : Option Value → Shared → Prop} (S : SI q s.heap it l k vs) (ne : l ≠ it) (hx : vs[k]? = some x) (hQ : ∀ h', SI q h' it l (k + 1) vs → Heap.SameBut it s.heap h' → Q (some x) { s with heap := h' }) :
    wpAny (model prog w) A (Builtin.SmallTypes.nextOrEnd (.ref it)) Q E s := by
  unfold Builtin.SmallTypes.nextOrEnd
  exact wpAny_bind (wpAny_attempt (si_item S ne hx fun h' S' sb => wpAny_pure (hQ h' S' sb)))
theorem se_end {q : Bool} {it l : Addr} {k : Nat} {vs : Array Value} {Q : Option Value → Shared → Prop} (hh : A.handled = none) (S : SI q s.heap it l k vs) (hx : vs[k]? = none) (hQ : ∀ h', Heap.ExtBut it s.heap h' → Q none { s with heap := h' }) :
    wpAny (model prog w) A (Builtin.SmallTypes.nextOrEnd (.ref it)) Q E s := by
  unfold Builtin.SmallTypes.nextOrEnd
  refine wpAny_bind (wpAny_attempt (si_end hh S hx fun h' e eb he => ?_))
  obtain ⟨o, ho, hc⟩ := he
  refine wpAny_bind (wpAny_isInstance (T := "StopIteration") (b := true) ⟨o, ho, hc⟩ isSubtype_stop ?_)
  exact wpAny_pure (hQ h' eb)
def zd (b : Bool) (it : Value) : Sem (Option Value) := if (Value.bool b == Value.bool true) = true then Builtin.SmallTypes.nextOrEnd it else (Builtin.SmallTypes.nextOf it >>= fun v => pure (some v))
theorem zd_item {b q : Bool} {it l : Addr} {k : Nat} {vs : Array Value} {x : Value} {Q : Option Value → Shared → Prop} (S : SI q s.heap it l k vs) (ne : l ≠ it) (hx : vs[k]? = some x) (hQ : ∀ h', SI q h' it l (k + 1) vs → Heap.SameBut it s.heap h' → Q (some x) { s with heap := h' }) :
    wpAny (model prog w) A (zd b (.ref it)) Q E s := by
  cases b with
  | true => exact se_item S ne hx hQ
  | false => exact wpAny_bind (si_item S ne hx fun h' S' sb => wpAny_pure (hQ h' S' sb))
abbrev IsZ (b : Bool) (h : Heap) (z TI TO : Addr) (f0 : Value) : Prop := h.get? z = some { cls := .type "zip", dict := none, data := .fields #[f0, .bool false, .bool b, .ref TI, .ref TO], slots := #[] }
theorem zn_item {b q1 q2 : Bool} {z TI TO i1 i2 l1 l2 : Addr} {k1 k2 : Nat} {xs ys : Array Value} {x y a c : Value} {Q : Value → Shared → Prop} (D : ZipApart z TI TO i1 i2 l1 l2) (hz : IsZ b s.heap z TI TO .none) (pI : IsPair s.heap TI (.ref i1) (.ref i2)) (pO : IsPair s.heap TO a c)
    (S1 : SI q1 s.heap i1 l1 k1 xs) (S2 : SI q2 s.heap i2 l2 k2 ys) (hx : xs[k1]? = some x) (hy : ys[k2]? = some y)
    (hQ : ∀ h', IsZ b h' z TI TO (rawInt s.heap.objs.size) → IsPair h' TO x y → SI q1 h' i1 l1 (k1 + 1) xs → SI q2 h' i2 l2 (k2 + 1) ys → IsPair h' s.heap.objs.size x y → h'.objs.size = s.heap.objs.size + 1 →
      (∀ m o, m ≠ z → m ≠ TO → m ≠ i1 → m ≠ i2 → s.heap.get? m = some o → h'.get? m = some o) → Q (.ref s.heap.objs.size) { s with heap := h' }) :
    wpAny (model prog w) A (Builtin.«zip.__next__» ⟨[.ref z], []⟩) (fun fin s' => ∃ v, fin = .done (.ret v) ∧ Q v s') E s := by
  show wpAny (model prog w) A (field (.ref z) 2 >>= _) _ _ _
  refine wpAny_bind (wpAny_field hz rfl (x := .bool b) rfl ?_)
  show wpAny (model prog w) A (field (.ref z) 3 >>= _) _ _ _
  refine wpAny_bind (wpAny_field hz rfl (x := .ref TI) rfl (wpAny_bind (wpAny_seqItems pI rfl ?_)))
  show wpAny (model prog w) A (Builtin.SmallTypes.ownedTupleIsFree (.ref z) >>= _) _ _ _
  refine wpAny_bind ?_
  unfold Builtin.SmallTypes.ownedTupleIsFree
  refine wpAny_bind (wpAny_field hz rfl (x := .none) rfl (wpAny_pure ?_))
  simp only [if_true]
  refine wpAny_bind (wpAny_rule (wpAny_bind (wpAny_field hz rfl (x := .ref TO) rfl ?_)))
  refine wpAny_bind (wpAny_setField_rec hz (by simp) fun g1 zz1 b1 => ?_)
  replace zz1 : IsZ b g1 z TI TO .ellipsis := zz1
  refine wpAny_bind ?_
  simp only [List.zipIdx_cons, List.zipIdx_nil, List.forIn_cons, List.forIn_nil]
  refine wpAny_bind (wpAny_bind (wpAny_onRaise ?_))
  show wpAny (model prog w) A (zd b (.ref i1)) _ _ _
  refine zd_item (S1.ext b1.extBut D.i1z D.l1z) D.l1i1 hx fun g2 T1 b2 => ?_
  have pO2 : IsPair g2 TO a c := b2.extBut _ _ D.TOi1 (b1.extBut _ _ D.TOz pO)
  refine wpAny_bind (wpAny_seqItems pO2 rfl (wpAny_bind (wpAny_updateSeq_pair pO2 fun g3 pO3 b3 => ?_)))
  replace pO3 : IsPair g3 TO x c := pO3
  refine wpAny_bind (wpAny_letGo (wpAny_pure ?_))
  refine wpAny_bind (wpAny_bind (wpAny_onRaise ?_))
  show wpAny (model prog w) A (zd b (.ref i2)) _ _ _
  refine zd_item (((S2.ext b1.extBut D.i2z D.l2z).ext b2.extBut D.i12.symm D.l2i1).ext b3.extBut D.TOi2.symm D.l2TO) D.l2i2 hy fun g4 T2 b4 => ?_
  have pO4 : IsPair g4 TO x c := b4.extBut _ _ D.TOi2 pO3
  refine wpAny_bind (wpAny_seqItems pO4 rfl (wpAny_bind (wpAny_updateSeq_pair pO4 fun g5 pO5 b5 => ?_)))
  replace pO5 : IsPair g5 TO x y := pO5
  refine wpAny_bind (wpAny_letGo (wpAny_pure (wpAny_pure ?_)))
  refine wpAny_bind (wpAny_seqItems pO5 rfl (wpAny_bind (wpAny_newTuple ?_)))
  have sz5 : g5.objs.size = s.heap.objs.size := by rw [b5.1, b4.1, b3.1, b2.1, b1.1]
  have zz5 : IsZ b g5 z TI TO .ellipsis := b5.extBut _ _ D.TOz.symm (b4.extBut _ _ D.i2z.symm (b3.extBut _ _ D.TOz.symm (b2.extBut _ _ D.i1z.symm zz1)))
  have keep5 : ∀ m o, m ≠ z → m ≠ TO → m ≠ i1 → m ≠ i2 → s.heap.get? m = some o → g5.get? m = some o := fun m o n1 n2 n3 n4 e => b5.extBut _ _ n2 (b4.extBut _ _ n4 (b3.extBut _ _ n2 (b2.extBut _ _ n3 (b1.extBut _ _ n1 e))))
  have T1' : SI q1 g5 i1 l1 (k1 + 1) xs := ((T1.ext b3.extBut D.TOi1.symm D.l1TO).ext b4.extBut D.i12 D.l1i2).ext b5.extBut D.TOi1.symm D.l1TO
  have T2' : SI q2 g5 i2 l2 (k2 + 1) ys := T2.ext b5.extBut D.TOi2.symm D.l2TO
  have zlt : z < g5.objs.size := Heap.lt_size zz5
  show wpAny (model prog w) A (Builtin.SmallTypes.ownedTupleHandOut (.ref z) (.ref g5.objs.size) >>= _) _ _ _
  refine wpAny_bind ?_
  unfold Builtin.SmallTypes.ownedTupleHandOut
  have zz6 : IsZ b (g5.push { cls := .type "tuple", data := .seq #[x, y] }) z TI TO .ellipsis := Heap.get?_push_of_some _ zz5
  refine wpAny_bind (wpAny_setField_rec zz6 (by simp) fun g7 zz7 b7 => ?_)
  replace zz7 : IsZ b g7 z TI TO (rawInt g5.objs.size) := zz7
  refine wpAny_setField_rec zz7 (by simp) fun g8 zz8 b8 => ?_
  replace zz8 : IsZ b g8 z TI TO (rawInt g5.objs.size) := zz8
  have up : ∀ m o, m ≠ z → g5.get? m = some o → g8.get? m = some o := fun m o n1 e => b8.extBut _ _ n1 (b7.extBut _ _ n1 (Heap.get?_push_of_some _ e))
  have new8 : IsPair g8 g5.objs.size x y := b8.extBut _ _ (Nat.ne_of_gt zlt) (b7.extBut _ _ (Nat.ne_of_gt zlt) (Heap.get?_push_size _ rfl))
  have sz8 : g8.objs.size = g5.objs.size + 1 := by rw [b8.1, b7.1, Heap.size_push]
  rw [sz5] at zz8 new8 sz8
  refine wpAny_pure ⟨_, rfl, ?_⟩
  show Q (.ref g5.objs.size) _
  rw [sz5]
  exact hQ g8 zz8 (up _ _ D.TOz pO5) (T1'.kept (fun o e => up _ o D.i1z e) fun o e => up _ o D.l1z e) (T2'.kept (fun o e => up _ o D.i2z e) fun o e => up _ o D.l2z e) new8 sz8 fun m o n1 n2 n3 n4 e => up m o n1 (keep5 m o n1 n2 n3 n4 e)
/-- StopIteration is raised -/
theorem stop_up {α : Type} {Q : α → Shared → Prop} (hh : A.handled = none) (hE : ∀ h' e, (∀ m o, s.heap.get? m = some o → h'.get? m = some o) → (∃ o, h'.get? e = some o ∧ o.cls = .type "StopIteration") → E (.ref e) { s with heap := h' }) :
    wpAny (model prog w) A (Builtin.SmallTypes.stopIteration : Sem α) Q E s := by
  show wpAny (model prog w) A (newExc (.type "StopIteration") [] >>= fun e => raiseNew e) _ _ _
  refine wpAny_bind ?_
  simp only [newExc, newTuple]
  refine wpAny_bind (wpAny_newObj_type (wpAny_bind (m := firstArgMember _ _) (wpAny_of_eq (a := Value.none) (by first | rfl | (simp only [firstArgMember]; rfl)) (wpAny_newObj_type ?_ (by size_fits)))) (by size_fits))
  simp only [raiseNew]
  refine wpAny_bind (wpAny_handled ?_)
  rw [hh]
  refine wpAny_bind (wpAny_pure (wpAny_throw ?_))
  exact hE _ _ (fun m o e => Heap.get?_push_of_some _ (Heap.get?_push_of_some _ e)) ⟨_, Heap.get?_push_size _ rfl, rfl⟩
theorem zn_end {b q1 q2 : Bool} {z TI TO i1 i2 l1 l2 : Addr} {k1 k2 : Nat} {xs ys : Array Value} {a c : Value} {Q : Fin → Shared → Prop} (hh : A.handled = none) (D : ZipApart z TI TO i1 i2 l1 l2) (hz : IsZ b s.heap z TI TO .none) (pI : IsPair s.heap TI (.ref i1) (.ref i2)) (pO : IsPair s.heap TO a c)
    (S1 : SI q1 s.heap i1 l1 k1 xs) (S2 : SI q2 s.heap i2 l2 k2 ys) (hend : xs[k1]? = none ∨ ys[k2]? = none) (hst : b = true → xs[k1]? = none ∧ ys[k2]? = none)
    (hE : ∀ h' e, (∀ m o, m ≠ z → m ≠ TO → m ≠ i1 → m ≠ i2 → s.heap.get? m = some o → h'.get? m = some o) → (∃ o, h'.get? e = some o ∧ o.cls = .type "StopIteration") → E (.ref e) { s with heap := h' }) :
    wpAny (model prog w) A (Builtin.«zip.__next__» ⟨[.ref z], []⟩) Q E s := by
  show wpAny (model prog w) A (field (.ref z) 2 >>= _) _ _ _
  refine wpAny_bind (wpAny_field hz rfl (x := .bool b) rfl ?_)
  show wpAny (model prog w) A (field (.ref z) 3 >>= _) _ _ _
  refine wpAny_bind (wpAny_field hz rfl (x := .ref TI) rfl (wpAny_bind (wpAny_seqItems pI rfl ?_)))
  show wpAny (model prog w) A (Builtin.SmallTypes.ownedTupleIsFree (.ref z) >>= _) _ _ _
  refine wpAny_bind ?_
  unfold Builtin.SmallTypes.ownedTupleIsFree
  refine wpAny_bind (wpAny_field hz rfl (x := .none) rfl (wpAny_pure ?_))
  simp only [if_true]
  refine wpAny_bind (wpAny_rule (wpAny_bind (wpAny_field hz rfl (x := .ref TO) rfl ?_)))
  refine wpAny_bind (wpAny_setField_rec hz (by simp) fun g1 zz1 b1 => ?_)
  replace zz1 : IsZ b g1 z TI TO .ellipsis := zz1
  refine wpAny_bind ?_
  simp only [List.zipIdx_cons, List.zipIdx_nil, List.forIn_cons, List.forIn_nil]
  refine wpAny_bind (wpAny_bind (wpAny_onRaise ?_))
  show wpAny (model prog w) A (zd b (.ref i1)) _ _ _
  cases b with
  | true =>
    obtain ⟨e1, e2⟩ := hst rfl
    refine se_end hh (S1.ext b1.extBut D.i1z D.l1z) e1 fun g2 b2 => ?_
    have zz2 : IsZ true g2 z TI TO .ellipsis := b2 _ _ D.i1z.symm zz1
    refine wpAny_bind (wpAny_setField_rec zz2 (by simp) fun g3 zz3 b3 => ?_)
    refine wpAny_bind ?_
    show wpAny (model prog w) A (forIn [(Value.ref i2, 1)] _ _ >>= _) _ _ _
    simp only [List.forIn_cons, List.forIn_nil]
    refine wpAny_bind (wpAny_bind (wpAny_bind ?_))
    refine se_end hh (((S2.ext b1.extBut D.i2z D.l2z).ext b2 D.i12.symm D.l2i1).ext b3.extBut D.i2z D.l2z) e2 fun g4 b4 => ?_
    refine wpAny_pure (wpAny_pure (wpAny_bind (wpAny_rule (stop_up hh fun g5 e b5 he => ?_))))
    exact hE g5 e (fun m o n1 _ n3 n4 q => b5 _ _ (b4 _ _ n4 (b3.extBut _ _ n1 (b2 _ _ n3 (b1.extBut _ _ n1 q))))) he
  | false =>
    cases hx : xs[k1]? with
    | none =>
      refine wpAny_bind (si_end hh (S1.ext b1.extBut D.i1z D.l1z) hx fun g2 e b2 he => ?_)
      obtain ⟨oe, hoe, hce⟩ := he
      have zz2 : IsZ false g2 z TI TO .ellipsis := b2 _ _ D.i1z.symm zz1
      have ne : e ≠ z := fun q => by subst q; rw [zz2] at hoe; cases hoe; simp at hce
      exact wpAny_setField_rec zz2 (by simp) fun g3 _ b3 => hE g3 e (fun m o n1 _ n3 _ q => b3.extBut _ _ n1 (b2 _ _ n3 (b1.extBut _ _ n1 q))) ⟨oe, b3.extBut _ _ ne hoe, hce⟩
    | some x =>
      have hy : ys[k2]? = none := hend.resolve_left (by rw [hx]; simp)
      refine wpAny_bind (si_item (S1.ext b1.extBut D.i1z D.l1z) D.l1i1 hx fun g2 T1 b2 => wpAny_pure ?_)
      have pO2 : IsPair g2 TO a c := b2.extBut _ _ D.TOi1 (b1.extBut _ _ D.TOz pO)
      refine wpAny_bind (wpAny_seqItems pO2 rfl (wpAny_bind (wpAny_updateSeq_pair pO2 fun g3 pO3 b3 => ?_)))
      refine wpAny_bind (wpAny_letGo (wpAny_pure ?_))
      refine wpAny_bind (wpAny_bind (wpAny_onRaise ?_))
      show wpAny (model prog w) A (zd false (.ref i2)) _ _ _
      refine wpAny_bind (si_end hh (((S2.ext b1.extBut D.i2z D.l2z).ext b2.extBut D.i12.symm D.l2i1).ext b3.extBut D.TOi2.symm D.l2TO) hy fun g4 e b4 he => ?_)
      obtain ⟨oe, hoe, hce⟩ := he
      have zz4 : IsZ false g4 z TI TO .ellipsis := b4 _ _ D.i2z.symm (b3.extBut _ _ D.TOz.symm (b2.extBut _ _ D.i1z.symm zz1))
      have ne : e ≠ z := fun q => by subst q; rw [zz4] at hoe; cases hoe; simp at hce
      exact wpAny_setField_rec zz4 (by simp) fun g5 _ b5 => hE g5 e (fun m o n1 n2 n3 n4 q => b5.extBut _ _ n1 (b4 _ _ n4 (b3.extBut _ _ n2 (b2.extBut _ _ n3 (b1.extBut _ _ n1 q))))) ⟨oe, b5.extBut _ _ ne hoe, hce⟩
theorem pn_item {b q1 q2 : Bool} {z TI TO i1 i2 l1 l2 : Addr} {k1 k2 : Nat} {xs ys : Array Value} {x y a c : Value} {Q : Option Value → Shared → Prop} (D : ZipApart z TI TO i1 i2 l1 l2) (hz : IsZ b s.heap z TI TO .none) (pI : IsPair s.heap TI (.ref i1) (.ref i2)) (pO : IsPair s.heap TO a c)
    (S1 : SI q1 s.heap i1 l1 k1 xs) (S2 : SI q2 s.heap i2 l2 k2 ys) (hx : xs[k1]? = some x) (hy : ys[k2]? = some y)
    (hQ : ∀ h', IsZ b h' z TI TO (rawInt s.heap.objs.size) → IsPair h' TO x y → SI q1 h' i1 l1 (k1 + 1) xs → SI q2 h' i2 l2 (k2 + 1) ys → IsPair h' s.heap.objs.size x y → h'.objs.size = s.heap.objs.size + 1 →
      (∀ m o, m ≠ z → m ≠ TO → m ≠ i1 → m ≠ i2 → s.heap.get? m = some o → h'.get? m = some o) → Q (some (.ref s.heap.objs.size)) { s with heap := h' }) : wpAny (model prog w) A (pyNext (.ref z)) Q E s := by
  have ty : s.TypeIs (.ref z) "zip" := ⟨_, hz, rfl⟩
  unfold pyNext
  exact wpAny_bind (wpAny_attempt (wpAny_callSpecial?_slot (name := Str.ofString "__next__") ty F.slot_zip_next
    (wpAny_call_entry F.slot_zip_next ty F.entry_zip_next (zn_item D hz pI pO S1 S2 hx hy fun h' a1 a2 a3 a4 a5 a6 a7 => wpAny_pure (hQ h' a1 a2 a3 a4 a5 a6 a7)) (F.args_zip_next_1 _))))
theorem pn_end {b q1 q2 : Bool} {z TI TO i1 i2 l1 l2 : Addr} {k1 k2 : Nat} {xs ys : Array Value} {a c : Value} {Q : Option Value → Shared → Prop} (hh : A.handled = none) (D : ZipApart z TI TO i1 i2 l1 l2) (hz : IsZ b s.heap z TI TO .none) (pI : IsPair s.heap TI (.ref i1) (.ref i2)) (pO : IsPair s.heap TO a c)
    (S1 : SI q1 s.heap i1 l1 k1 xs) (S2 : SI q2 s.heap i2 l2 k2 ys) (hend : xs[k1]? = none ∨ ys[k2]? = none) (hst : b = true → xs[k1]? = none ∧ ys[k2]? = none)
    (hQ : ∀ h', (∀ m o, m ≠ z → m ≠ TO → m ≠ i1 → m ≠ i2 → s.heap.get? m = some o → h'.get? m = some o) → Q none { s with heap := h' }) : wpAny (model prog w) A (pyNext (.ref z)) Q E s := by
  have ty : s.TypeIs (.ref z) "zip" := ⟨_, hz, rfl⟩
  unfold pyNext
  refine wpAny_bind (wpAny_attempt (wpAny_callSpecial?_slot (name := Str.ofString "__next__") ty F.slot_zip_next
    (wpAny_call_entry F.slot_zip_next ty F.entry_zip_next (zn_end hh D hz pI pO S1 S2 hend hst fun h' e hk he => ?_) (F.args_zip_next_1 _))))
  obtain ⟨o, ho, hc⟩ := he
  exact wpAny_bind (wpAny_isInstance (T := "StopIteration") (b := true) ⟨o, ho, hc⟩ isSubtype_stop (wpAny_pure (hQ _ hk)))
theorem go_zip {b : Bool} {elts : List Expr} {x1} {pos : Pos} {z TI TO T : Addr} {Q : Unit → Shared → Prop} (hz : IsZ b s.heap z TI TO (rawInt T)) (hQ : ∀ h', IsZ b h' z TI TO .none → Heap.SameBut z s.heap h' → Q () { s with heap := h' }) :
    wpAny (model prog w) A (letOwnedTupleGo (.Tuple elts x1 pos) (.ref z) (.ref T)) Q E s := by
  unfold letOwnedTupleGo
  refine wpAny_bind (wpAny_load hz ?_)
  show wpAny (model prog w) A (if (["enumerate", "zip", "dict_itemiterator", "dict_reverseitemiterator", "odict_iterator", "itertools.zip_longest", "itertools.pairwise"].contains "zip" && (#[rawInt T, .bool false, .bool b, .ref TI, .ref TO] : Array Value)[0]? == some (rawInt T)) = true then _ else _) Q E s
  rw [if_pos (by simp)]
  exact wpAny_bind (wpAny_rule (wpAny_setField_rec hz (by simp) fun h' z' sb => hQ h' z' sb))
theorem it_zip {b : Bool} {z TI TO : Addr} {f0 : Value} {Q : Value → Shared → Prop} (hz : IsZ b s.heap z TI TO f0) (h : Q (.ref z) s) : wpAny (model prog w) A (pyIter (.ref z)) Q E s := by
  have ty : s.TypeIs (.ref z) "zip" := ⟨_, hz, rfl⟩
  refine wpAny_pyIter_slot ty F.slot_zip_iter (wpAny_call_entry F.slot_zip_iter ty F.entry_zip_iter ?_ (F.args_zip_iter_1 _))
  exact wpAny_pure ⟨_, rfl, "zip", _, ty, F.slot_zip_next.lookup, h⟩
end
/-! ### the turn -/
def SqK (K : PySem.W.Frag) (H : Hp) (q : Bool) (a : Addr) (xs : List V) : Prop := match q with
  | true => SqL K H a xs
  | false => SqT K H a xs
def itK (q : Bool) (h : Heap) (it l : Addr) (k : Nat) : Prop := match q with
  | true => h.IsListIter it l k
  | false => h.IsTupleIter it l k
theorem itK.at {q : Bool} {h h' : Heap} {it l : Addr} {k : Nat} (S : itK q h it l k) (e : ∀ o, h.get? it = some o → h'.get? it = some o) : itK q h' it l k := by
  cases q with
  | true => exact Heap.IsListIter.at S e
  | false => exact Heap.IsTupleIter.at S e
theorem itK.obj {q : Bool} {h : Heap} {it l : Addr} {k : Nat} (S : itK q h it l k) : ∃ o, h.get? it = some o ∧ ∀ v, o.data ≠ .cell v := by
  cases q with
  | true =>
    obtain ⟨o, e, _, d⟩ := S
    exact ⟨o, e, fun v z => by rw [d] at z; cases z⟩
  | false =>
    obtain ⟨o, e, _, d⟩ := S
    exact ⟨o, e, fun v z => by rw [d] at z; cases z⟩
theorem SI.it {q : Bool} {h : Heap} {it l : Addr} {k : Nat} {vs : Array Value} (S : SI q h it l k vs) : itK q h it l k := by
  cases q with
  | true => exact S.1
  | false => exact S.1
theorem sqk_obj {X : Cx} {pins : List (Addr × Obj)} {σ : L2.St} {H : Hp} {s : Shared} {q : Bool} {a : Addr} {xs : List V} (I : Inv X pins σ H s) (h : SqK X.K H q a xs) : ∃ its : List Value, Vals xs its ∧ a < s.heap.objs.size ∧ ∀ it k, itK q s.heap it a k → SI q s.heap it a k its.toArray := by
  cases q with
  | true =>
    obtain ⟨its, rv, p, _⟩ := I.list h
    exact ⟨its, rv, p.lt, fun it k z => ⟨z, p.isList⟩⟩
  | false =>
    obtain ⟨its, rv, p, _⟩ := I.tuple h
    obtain ⟨o, ho, _⟩ := id p
    exact ⟨its, rv, Heap.lt_size ho, fun it k z => ⟨z, p⟩⟩
theorem sqk_inj {X : Cx} {pins : List (Addr × Obj)} {σ : L2.St} {H : Hp} {s : Shared} {q : Bool} {a : Addr} {xs ys : List V} (I : Inv X pins σ H s) (h : SqK X.K H q a xs) (h' : SqK X.K H q a ys) : xs = ys := by
  cases q with
  | true => exact I.list_inj h h'
  | false => exact I.tuple_inj h h'
def ItG (K : PySem.W.Frag) (b q1 q2 : Bool) (a c : Addr) : L2.It :=
  ⟨fun i H => ∃ (xs ys : List V) (x y : V), SqK K H q1 a xs ∧ SqK K H q2 c ys ∧ xs[i]? = some x ∧ ys[i]? = some y,
    fun i H v H' => ∃ T x y, v = .ref T ∧ H T = none ∧ H' = upd H T (.tup [x, y]) ∧ (∀ xs, SqK K H q1 a xs → xs[i]? = some x) ∧ ∀ ys, SqK K H q2 c ys → ys[i]? = some y,
    fun i H => ∃ xs ys : List V, SqK K H q1 a xs ∧ SqK K H q2 c ys ∧ (xs.length ≤ i ∨ ys.length ≤ i) ∧ (b = true → xs.length ≤ i ∧ ys.length ≤ i)⟩
theorem turn_zipG {P : Program} {w : World} {K : PySem.W.Frag} {elts : List Expr} {kk : Nat} {tpos : Pos} {b q1 q2 : Bool} {a c z TI TO i1 i2 : Addr} (D : ZipApart z TI TO i1 i2 a c) :
    Turn P w K (.Tuple elts kk tpos) (ItG K b q1 q2 a c) [z, TI, TO, i1, i2] z (fun i h => IsZ b h z TI TO .none ∧ IsPair h TI (.ref i1) (.ref i2) ∧ (∃ x y, IsPair h TO x y) ∧ itK q1 h i1 a i ∧ itK q2 h i2 c i) where
  mem := by simp
  obj := fun i h st m hm => by
    obtain ⟨hz, pI, ⟨x, y, pO⟩, s1, s2⟩ := st
    have e' : m = z ∨ m = TI ∨ m = TO ∨ m = i1 ∨ m = i2 := by simpa using hm
    rcases e' with rfl | rfl | rfl | rfl | rfl
    · exact ⟨_, hz, fun v q => nomatch q⟩
    · exact ⟨_, pI, fun v q => nomatch q⟩
    · exact ⟨_, pO, fun v q => nomatch q⟩
    · exact s1.obj
    · exact s2.obj
  keep := fun i h h' st k => by
    obtain ⟨hz, pI, ⟨x, y, pO⟩, s1, s2⟩ := st
    exact ⟨k z (by simp) _ hz, k TI (by simp) _ pI, ⟨x, y, k TO (by simp) _ pO⟩, s1.at fun o q => k i1 (by simp) o q, s2.at fun o q => k i2 (by simp) o q⟩
  item := by
    intro X hP hw hK hc i pins s σ H E I hf st hg
    subst hP hw hK
    obtain ⟨hz, pI, ⟨x0, y0, pO⟩, s1, s2⟩ := st
    obtain ⟨xs, ys, x, y, hqx, hqy, hx, hy⟩ := hg
    obtain ⟨its, rv, la, o1⟩ := sqk_obj I hqx
    obtain ⟨its2, rv2, lc, o2⟩ := sqk_obj I hqy
    obtain ⟨u, hu, ru⟩ := rv.get hx
    obtain ⟨u2, hu2, ru2⟩ := rv2.get hy
    have zl : z < s.heap.objs.size := Heap.lt_size hz
    refine pn_item D hz pI pO (o1 _ _ s1) (o2 _ _ s2) (x := u) (y := u2) (by simpa using hu) (by simpa using hu2) fun h' z' pO' S1' S2' hT hsz hk => ?_
    refine ⟨_, rfl, go_zip (s := { s with heap := h' }) z' fun h'' z'' sb => ?_⟩
    have hT2 : h''.get? s.heap.objs.size = some { cls := .type "tuple", data := .seq #[u, u2] } := (sb.2 _ (Nat.ne_of_gt zl)).trans hT
    have new : ObjOk X.prog X.w (upd H s.heap.objs.size (.tup [x, y])) h'' s.heap.objs.size (.tup [x, y]) := ⟨by show 2 ≤ sizeLine; decide, [u, u2], .cons ru (.cons ru2 .nil), ⟨_, hT2, rfl, _, rfl⟩⟩
    have I1 : Inv X pins σ (upd H s.heap.objs.size (.tup [x, y])) { s with heap := h'' } :=
      I.turnedNew (t' := s.toks) (ch := [z, TI, TO, i1, i2]) (fun m o hb q => (sb.2 m (fun r => hb (by simp [r]))).trans (hk m o (fun r => hb (by simp [r])) (fun r => hb (by simp [r])) (fun r => hb (by simp [r])) (fun r => hb (by simp [r])) q)) hf (Nat.le_refl _) new
    refine ⟨.ref s.heap.objs.size, _, I1, rfl, ⟨_, x, y, rfl, I.hok.fresh (Nat.le_refl _), rfl, fun l hl => by rw [sqk_inj I hl hqx]; exact hx, fun l hl => by rw [sqk_inj I hl hqy]; exact hy⟩, ⟨z'', ?_, ⟨u, u2, ?_⟩, ?_, ?_⟩, fun m hm => ?_⟩
    · exact (sb.2 _ D.TIz).trans (hk _ _ D.TIz D.TITO D.TIi1 D.TIi2 pI)
    · exact (sb.2 _ D.TOz).trans pO'
    · exact S1'.it.at fun o q => (sb.2 _ D.i1z).trans q
    · exact S2'.it.at fun o q => (sb.2 _ D.i2z).trans q
    · have lt : m < s.heap.objs.size := by
        have e' : m = z ∨ m = TI ∨ m = TO ∨ m = i1 ∨ m = i2 := by simpa using hm
        rcases e' with rfl | rfl | rfl | rfl | rfl
        · exact zl
        · exact Heap.lt_size pI
        · exact Heap.lt_size pO
        · obtain ⟨_, e1, _⟩ := s1.obj; exact Heap.lt_size e1
        · obtain ⟨_, e2, _⟩ := s2.obj; exact Heap.lt_size e2
      rw [upd_ne (Nat.ne_of_lt lt)]
      exact (hf m hm).1
  done := by
    intro X hP hw hK hc i pins s σ H E I hf st hg
    subst hP hw hK
    obtain ⟨hz, pI, ⟨x0, y0, pO⟩, s1, s2⟩ := st
    obtain ⟨xs, ys, hqx, hqy, hend, hst⟩ := hg
    obtain ⟨its, rv, la, o1⟩ := sqk_obj I hqx
    obtain ⟨its2, rv2, lc, o2⟩ := sqk_obj I hqy
    have n1 := rv.length
    have n2 := rv2.length
    have g1 : xs.length ≤ i → its.toArray[i]? = none := fun q => by simp; omega
    have g2 : ys.length ≤ i → its2.toArray[i]? = none := fun q => by simp; omega
    exact pn_end (I.ok.hd hc) D hz pI pO (o1 _ _ s1) (o2 _ _ s2) (hend.imp g1 g2) (fun q => ⟨g1 (hst q).1, g2 (hst q).2⟩) fun h' hk => ⟨rfl, I.turnedL (t' := s.toks) (ch := [z, TI, TO, i1, i2]) (fun m o hb q =>
      hk m o (fun r => hb (by simp [r])) (fun r => hb (by simp [r])) (fun r => hb (by simp [r])) (fun r => hb (by simp [r])) q) hf⟩
  self := fun A i s Q E st h => it_zip st.1 h
end Ev
end
section
set_option maxRecDepth 100000
set_option maxHeartbeats 4000000
/-! zip(a, b), zip(a, b, strict=True) made -/
namespace Ev
open PySem PySem.Spec PyProof.Rows L2
def objK (q : Bool) (h : Heap) (l : Addr) (vs : Array Value) : Prop := match q with
  | true => h.IsList l vs
  | false => h.IsTuple l vs
def itN (q : Bool) : String := match q with
  | true => "list_iterator"
  | false => "tuple_iterator"
abbrev zkw (b : Bool) : List (Str × Value) := if b then [(Str.ofString "strict", .bool true)] else []
abbrev zh1 (q1 : Bool) (h : Heap) (l1 : Addr) : Heap := h.push { cls := .type (itN q1), data := .fields #[.ref l1, .int 0 0] }
abbrev zh2 (q1 q2 : Bool) (h : Heap) (l1 l2 : Addr) : Heap := (zh1 q1 h l1).push { cls := .type (itN q2), data := .fields #[.ref l2, .int 0 0] }
abbrev zh3 (q1 q2 : Bool) (h : Heap) (l1 l2 : Addr) : Heap := (zh2 q1 q2 h l1 l2).push { cls := .type "tuple", data := .seq #[.ref h.objs.size, .ref (zh1 q1 h l1).objs.size] }
abbrev zh4 (q1 q2 : Bool) (h : Heap) (l1 l2 : Addr) : Heap := (zh3 q1 q2 h l1 l2).push { cls := .type "tuple", data := .seq #[.none, .none] }
abbrev zh5 (b q1 q2 : Bool) (h : Heap) (l1 l2 : Addr) : Heap := (zh4 q1 q2 h l1 l2).push { cls := .type "zip", data := .fields #[.none, .bool false, .bool b, .ref (zh2 q1 q2 h l1 l2).objs.size, .ref (zh3 q1 q2 h l1 l2).objs.size] }
theorem objK.push {q : Bool} {h : Heap} {l : Addr} {vs : Array Value} (p : objK q h l vs) (o : Obj) : objK q (h.push o) l vs := by
  cases q with
  | true => exact Heap.IsList.push p o
  | false => exact Heap.IsTuple.push p o
theorem iter_k {prog : Program} {w : World} {A : Around} {E : Value → Shared → Prop} {s : Shared} {q : Bool} {l : Addr} {vs : Array Value} {Q : Value → Shared → Prop} (p : objK q s.heap l vs) (h : Q (.ref s.heap.objs.size) { s with heap := zh1 q s.heap l }) : wpAny (model prog w) A (pyIter (.ref l)) Q E s := by
  cases q with
  | true => exact wpAny_pyIter_list p h
  | false => exact wpAny_pyIter_tuple p h
theorem new_zip (b q1 q2 : Bool) (l1 l2 : Addr) (xs ys : Array Value) :
    Meets (Builtin.«zip.__new__» ⟨[.type "zip", .ref l1, .ref l2], zkw b⟩) (fun _ R s => objK q1 s.heap l1 xs ∧ objK q2 s.heap l2 ys ∧ R (.ok (.ret (.ref (zh4 q1 q2 s.heap l1 l2).objs.size))) { s with heap := zh5 b q1 q2 s.heap l1 l2 }) :=
  .of_wp fun prog w A R s h => by
    obtain ⟨hp, g, d, tk, os⟩ := s
    obtain ⟨p1, p2, h⟩ := h
    have hsub := sub_zip
    have L1 : objK q1 (Shared.heap ⟨hp, g, d, tk, os⟩) l1 xs := p1
    have L2 : objK q2 (Shared.heap ⟨hp.push { cls := .type (itN q1), data := .fields #[.ref l1, .int 0 0] }, g, d, tk, os⟩) l2 ys := p2.push _
    cases b with
    | false =>
      wp_walk using iter_k L1, iter_k L2
      exact ⟨_, rfl, h⟩
    | true =>
      wp_walk using iter_k L1, iter_k L2
      exact ⟨_, rfl, h⟩
theorem typeCall_zk (a c : Value) : checkTypeCall "zip" ⟨[a, c], [(Str.ofString "strict", .bool true)]⟩ = pure () := by kernel_rfl
theorem newCall_zk (a c : Value) : checkBuiltinCall "zip.__new__" ⟨[.type "zip", a, c], [(Str.ofString "strict", .bool true)]⟩ = pure () := by kernel_rfl
theorem args_init_zk (a c d : Value) : argsOk "object.__init__" ⟨[a, c, d], [(Str.ofString "strict", .bool true)]⟩ := by
  unfold argsOk; rw [signature?_of (id := "object.__init__") (n := ['_', '_', 't', 'i', 'n', 'i', '_', '_']) (o := ['t', 'c', 'e', 'j', 'b', 'o']) (by kernel_rfl) F.owner_object]; kernel_rfl
end Ev
end
section
set_option maxRecDepth 100000
set_option maxHeartbeats 4000000
namespace Ev
open PySem PySem.Spec PyProof.Rows L2
section
variable {prog : Program} {w : World} {A : Around} {E : Value → Shared → Prop} {s : Shared}
theorem init_zk {self : Value} {a c : Value} : Meets (Builtin.«object.__init__» ⟨[self, a, c], [(Str.ofString "strict", .bool true)]⟩) (fun _ R s => s.TypeIs self "zip" ∧ R (.ok (.ret .none)) s) := by
  refine Meets.of_wp fun prog w A R s hs => ?_
  obtain ⟨hT, hq⟩ := hs
  have hl := F.called_zip.init.lookup
  have hm := F.called_zip.made
  repeat (any_goals (first | assumption | wp_step))
  exact ⟨_, rfl, hq⟩
theorem call_zs {S : PySem.Spec} {a c : Value} {Q : Value → Shared → Prop} (g : Meets (Builtin.«zip.__new__» ⟨[.type "zip", a, c], [(Str.ofString "strict", .bool true)]⟩) S) (h : S A.in1 (wants (fun obj s1 => s1.TypeIs obj "zip" ∧ Q obj s1) E) s) :
    wpAny (model prog w) A (call (.type "zip") [a, c] [(Str.ofString "strict", .bool true)]) Q E s := by
  have ft := F.called_zip
  obtain ⟨c0, tl, hmro⟩ := ft.mro
  have hmade := ft.made
  have hsub := ft.sub
  have hct := typeCall_zk a c
  refine wpAny_call (codeAny_of_tree ?_)
  show wpAny (model prog w) _ (callAny (.type "zip") _) _ _ _
  refine wpAny_pure ⟨Code.quiet_builtin _ (by decide +kernel), codeAny_builtin F.entry_type_call ?_⟩
  rw [Around.under_plain (weight_type_call_type "zip" [a, c] [(Str.ofString "strict", .bool true)]) (units_type_call_type "zip" [a, c] [(Str.ofString "strict", .bool true)])]
  have h1 := ft.notType
  have h2 := ft.canCreate
  repeat (any_goals (first | assumption | wp_step))
  refine codeAny_mono (codeAny_call_builtin ft.plain F.entry_zip_new (wpAny_of_eq (newCall_zk a c) (g prog w A.in1 _ s h))) fun r s1 hr => ?_
  cases r with
  | error e => exact hr
  | ok fl =>
    cases fl with
    | ret obj =>
      obtain ⟨hT, hq⟩ := hr
      have hli := ft.init.lookup
      have hbi := ft.init.bind obj
      repeat (any_goals (first | assumption | wp_step))
      refine codeAny_mono (codeAny_call_builtin ft.init.plain F.entry_object_init (ft.init.check _ _ _ _ _ _ _ _ hT (args_init_zk obj a c) (init_zk prog w A.in1 _ s1 ⟨hT, show wants (fun r s2 => r = .none ∧ Q obj s2) E (.ok (.ret .none)) s1 from ⟨rfl, hq⟩⟩))) fun r2 s2 hr2 => ?_
      cases r2 with
      | error e => exact hr2
      | ok fl2 =>
        cases fl2 with
        | ret r =>
          obtain ⟨rfl, hq⟩ := hr2
          repeat (any_goals (first | assumption | wp_step))
        | _ => exact hr2.elim
    | _ => exact hr.elim
theorem call_zipK {b q1 q2 : Bool} {l1 l2 : Addr} {xs ys : Array Value} {Q : Value → Shared → Prop} (p1 : objK q1 s.heap l1 xs) (p2 : objK q2 s.heap l2 ys)
    (h : ∀ h', IsZ b h' (s.heap.objs.size + 4) (s.heap.objs.size + 2) (s.heap.objs.size + 3) .none → IsPair h' (s.heap.objs.size + 2) (.ref s.heap.objs.size) (.ref (s.heap.objs.size + 1)) → IsPair h' (s.heap.objs.size + 3) .none .none →
      itK q1 h' s.heap.objs.size l1 0 → itK q2 h' (s.heap.objs.size + 1) l2 0 → (∀ m o, s.heap.get? m = some o → h'.get? m = some o) → Q (.ref (s.heap.objs.size + 4)) { s with heap := h' }) :
    wpAny (model prog w) A (call (.type "zip") [.ref l1, .ref l2] (zkw b)) Q E s := by
  have z1 : (zh1 q1 s.heap l1).objs.size = s.heap.objs.size + 1 := Heap.size_push ..
  have z2 : (zh2 q1 q2 s.heap l1 l2).objs.size = s.heap.objs.size + 2 := by rw [Heap.size_push, z1]
  have z3 : (zh3 q1 q2 s.heap l1 l2).objs.size = s.heap.objs.size + 3 := by rw [Heap.size_push, z2]
  have z4 : (zh4 q1 q2 s.heap l1 l2).objs.size = s.heap.objs.size + 4 := by rw [Heap.size_push, z3]
  have g5 : (zh5 b q1 q2 s.heap l1 l2).get? (zh4 q1 q2 s.heap l1 l2).objs.size = some _ := Heap.get?_push_size _ rfl
  have g4 : (zh5 b q1 q2 s.heap l1 l2).get? (zh3 q1 q2 s.heap l1 l2).objs.size = some _ := Heap.get?_push_of_some _ (Heap.get?_push_size _ rfl)
  have g3 : (zh5 b q1 q2 s.heap l1 l2).get? (zh2 q1 q2 s.heap l1 l2).objs.size = some _ := Heap.get?_push_of_some _ (Heap.get?_push_of_some _ (Heap.get?_push_size _ rfl))
  have g2 : (zh5 b q1 q2 s.heap l1 l2).get? (zh1 q1 s.heap l1).objs.size = some _ := Heap.get?_push_of_some _ (Heap.get?_push_of_some _ (Heap.get?_push_of_some _ (Heap.get?_push_size _ rfl)))
  have g1 : (zh5 b q1 q2 s.heap l1 l2).get? s.heap.objs.size = some _ := Heap.get?_push_of_some _ (Heap.get?_push_of_some _ (Heap.get?_push_of_some _ (Heap.get?_push_of_some _ (Heap.get?_push_size _ rfl))))
  rw [z2, z3, z4] at g5
  rw [z1, z2] at g3
  rw [z3] at g4
  rw [z1] at g2
  have i1 : itK q1 (zh5 b q1 q2 s.heap l1 l2) s.heap.objs.size l1 0 := by cases q1 <;> exact ⟨_, g1, rfl, rfl⟩
  have i2 : itK q2 (zh5 b q1 q2 s.heap l1 l2) (s.heap.objs.size + 1) l2 0 := by cases q2 <;> exact ⟨_, g2, rfl, rfl⟩
  have fin : (Shared.TypeIs { s with heap := zh5 b q1 q2 s.heap l1 l2 } (.ref (zh4 q1 q2 s.heap l1 l2).objs.size) "zip") ∧ Q (.ref (zh4 q1 q2 s.heap l1 l2).objs.size) { s with heap := zh5 b q1 q2 s.heap l1 l2 } := by
    rw [z4]
    exact ⟨⟨_, g5, rfl⟩, h _ g5 g3 g4 i1 i2 fun m o x => Heap.get?_push_of_some _ (Heap.get?_push_of_some _ (Heap.get?_push_of_some _ (Heap.get?_push_of_some _ (Heap.get?_push_of_some _ x))))⟩
  cases b with
  | true => exact call_zs (new_zip true q1 q2 l1 l2 xs ys) ⟨p1, p2, fin⟩
  | false => exact callType_new F.called_zip (by decide) (F.typeCall_zip_2 _ _) (F.newCall_zip_2 _ _) (fun obj => F.args_object_init_3 obj _ _) F.entry_zip_new (new_zip false q1 q2 l1 l2 xs ys) ⟨p1, p2, fin⟩
end
end Ev
end
section
set_option maxRecDepth 100000
set_option maxHeartbeats 4000000
/-! list(zip(a, b)), list(zip(a, b, strict=True)) -/
namespace Ev
open PySem PySem.Spec PyProof.Rows L2
abbrev IsZh (b : Bool) (h : Heap) (z TI TO T : Addr) (f : Bool) : Prop := h.get? z = some { cls := .type "zip", dict := none, data := .fields #[rawInt T, .bool f, .bool b, .ref TI, .ref TO], slots := #[] }
section
variable {prog : Program} {w : World} {A : Around} {E : Value → Shared → Prop} {s : Shared}
theorem zh_free {b f : Bool} {z TI TO T : Addr} {ob : Obj} {Q : Bool → Shared → Prop} (hz : IsZh b s.heap z TI TO T f) (hT : s.heap.get? T = some ob) (hQ : ∀ h', IsZh b h' z TI TO T true → Heap.SameBut z s.heap h' → Q false { s with heap := h' }) :
    wpAny (model prog w) A (Builtin.SmallTypes.ownedTupleIsFree (.ref z)) Q E s := by
  unfold Builtin.SmallTypes.ownedTupleIsFree
  refine wpAny_bind (wpAny_field hz rfl (x := rawInt T) rfl ?_)
  show wpAny (model prog w) A (loadIfAlive ((T : Int).toNat) >>= _) Q E s
  rw [Int.toNat_natCast]
  refine wpAny_bind (PySem.W.kdx_alive hT ?_)
  simp only [Option.isNone_some, Bool.false_eq_true, if_false]
  refine wpAny_bind (wpAny_field hz rfl (x := .bool f) rfl ?_)
  cases f with
  | false =>
    rw [if_pos (show (Value.bool false != Value.bool true) = true from rfl)]
    exact wpAny_bind (wpAny_setField_rec hz (by simp) fun g zg sg => wpAny_pure (hQ g zg sg))
  | true =>
    rw [if_neg (show ¬ ((Value.bool true != Value.bool true) = true) from Bool.false_ne_true)]
    exact wpAny_pure (hQ _ hz (Heap.SameBut.refl _ _))
theorem zh_item {b q1 q2 f : Bool} {z TI TO T i1 i2 l1 l2 : Addr} {ob : Obj} {k1 k2 : Nat} {xs ys : Array Value} {x y : Value} {Q : Value → Shared → Prop} (D : ZipApart z TI TO i1 i2 l1 l2) (hz : IsZh b s.heap z TI TO T f) (hT : s.heap.get? T = some ob) (pI : IsPair s.heap TI (.ref i1) (.ref i2))
    (S1 : SI q1 s.heap i1 l1 k1 xs) (S2 : SI q2 s.heap i2 l2 k2 ys) (hx : xs[k1]? = some x) (hy : ys[k2]? = some y)
    (hQ : ∀ h', IsZh b h' z TI TO T true → SI q1 h' i1 l1 (k1 + 1) xs → SI q2 h' i2 l2 (k2 + 1) ys → IsPair h' s.heap.objs.size x y → h'.objs.size = s.heap.objs.size + 1 →
      (∀ m o, m ≠ z → m ≠ i1 → m ≠ i2 → s.heap.get? m = some o → h'.get? m = some o) → Q (.ref s.heap.objs.size) { s with heap := h' }) :
    wpAny (model prog w) A (Builtin.«zip.__next__» ⟨[.ref z], []⟩) (fun fin s' => ∃ v, fin = .done (.ret v) ∧ Q v s') E s := by
  show wpAny (model prog w) A (field (.ref z) 2 >>= _) _ _ _
  refine wpAny_bind (wpAny_field hz rfl (x := .bool b) rfl ?_)
  show wpAny (model prog w) A (field (.ref z) 3 >>= _) _ _ _
  refine wpAny_bind (wpAny_field hz rfl (x := .ref TI) rfl (wpAny_bind (wpAny_seqItems pI rfl ?_)))
  show wpAny (model prog w) A (Builtin.SmallTypes.ownedTupleIsFree (.ref z) >>= _) _ _ _
  refine wpAny_bind (zh_free hz hT fun g1 zg sg => ?_)
  simp only [Bool.false_eq_true, if_false]
  refine wpAny_bind ?_
  rw [← Array.forIn_toList]
  simp only [List.forIn_cons, List.forIn_nil]
  refine wpAny_bind (wpAny_bind (wpAny_holding ?_))
  show wpAny (model prog w) A (zd b (.ref i1)) _ _ _
  refine zd_item (s := { s with heap := g1 }) (S1.ext sg.extBut D.i1z D.l1z) D.l1i1 hx fun g2 T1 b2 => wpAny_pure ?_
  refine wpAny_bind (wpAny_bind (wpAny_holding ?_))
  show wpAny (model prog w) A (zd b (.ref i2)) _ _ _
  refine zd_item (s := { s with heap := g2 }) ((S2.ext sg.extBut D.i2z D.l2z).ext b2.extBut D.i12.symm D.l2i1) D.l2i2 hy fun g3 T2 b3 => wpAny_pure (wpAny_pure ?_)
  show wpAny (model prog w) A (newTuple [x, y] >>= _) _ _ _
  refine wpAny_bind (wpAny_newTuple ?_)
  have sz : g3.objs.size = s.heap.objs.size := by rw [b3.1, b2.1, sg.1]
  have z3 : IsZh b g3 z TI TO T true := b3.extBut _ _ D.i2z.symm (b2.extBut _ _ D.i1z.symm zg)
  have keep : ∀ m o, m ≠ z → m ≠ i1 → m ≠ i2 → s.heap.get? m = some o → g3.get? m = some o := fun m o n1 n2 n3 e => b3.extBut _ _ n3 (b2.extBut _ _ n2 (sg.extBut _ _ n1 e))
  have T1' : SI q1 g3 i1 l1 (k1 + 1) xs := T1.ext b3.extBut D.i12 D.l1i2
  refine wpAny_pure ⟨_, rfl, ?_⟩
  show Q (.ref g3.objs.size) _
  have new : IsPair (g3.push { cls := .type "tuple", data := .seq #[x, y] }) g3.objs.size x y := Heap.get?_push_size _ rfl
  have sz' : (g3.push { cls := .type "tuple", data := .seq #[x, y] }).objs.size = g3.objs.size + 1 := Heap.size_push ..
  rw [sz] at new sz' ⊢
  exact hQ _ (Heap.get?_push_of_some _ z3) (T1'.kept (fun o e => Heap.get?_push_of_some _ e) fun o e => Heap.get?_push_of_some _ e) (T2.kept (fun o e => Heap.get?_push_of_some _ e) fun o e => Heap.get?_push_of_some _ e) new sz' fun m o n1 n2 n3 e => Heap.get?_push_of_some _ (keep m o n1 n2 n3 e)
theorem zh_end {b q1 q2 f : Bool} {z TI TO T i1 i2 l1 l2 : Addr} {ob : Obj} {k1 k2 : Nat} {xs ys : Array Value} {Q : Fin → Shared → Prop} (hh : A.handled = none) (D : ZipApart z TI TO i1 i2 l1 l2) (hz : IsZh b s.heap z TI TO T f) (hT : s.heap.get? T = some ob) (pI : IsPair s.heap TI (.ref i1) (.ref i2))
    (S1 : SI q1 s.heap i1 l1 k1 xs) (S2 : SI q2 s.heap i2 l2 k2 ys) (hend : xs[k1]? = none ∨ ys[k2]? = none) (hst : b = true → xs[k1]? = none ∧ ys[k2]? = none)
    (hE : ∀ h' e, (∀ m o, m ≠ z → m ≠ i1 → m ≠ i2 → s.heap.get? m = some o → h'.get? m = some o) → (∃ o, h'.get? e = some o ∧ o.cls = .type "StopIteration") → E (.ref e) { s with heap := h' }) :
    wpAny (model prog w) A (Builtin.«zip.__next__» ⟨[.ref z], []⟩) Q E s := by
  show wpAny (model prog w) A (field (.ref z) 2 >>= _) _ _ _
  refine wpAny_bind (wpAny_field hz rfl (x := .bool b) rfl ?_)
  show wpAny (model prog w) A (field (.ref z) 3 >>= _) _ _ _
  refine wpAny_bind (wpAny_field hz rfl (x := .ref TI) rfl (wpAny_bind (wpAny_seqItems pI rfl ?_)))
  show wpAny (model prog w) A (Builtin.SmallTypes.ownedTupleIsFree (.ref z) >>= _) _ _ _
  refine wpAny_bind (zh_free hz hT fun g1 zg sg => ?_)
  simp only [Bool.false_eq_true, if_false]
  refine wpAny_bind ?_
  rw [← Array.forIn_toList]
  simp only [List.forIn_cons, List.forIn_nil]
  refine wpAny_bind (wpAny_bind (wpAny_holding ?_))
  show wpAny (model prog w) A (zd b (.ref i1)) _ _ _
  cases b with
  | true =>
    obtain ⟨e1, e2⟩ := hst rfl
    refine se_end (s := { s with heap := g1 }) hh (S1.ext sg.extBut D.i1z D.l1z) e1 fun g2 b2 => ?_
    refine wpAny_bind ?_
    refine wpAny_bind ?_
    show wpAny (model prog w) A (forIn [(Value.ref i2, 1)] _ _) _ _ _
    simp only [List.forIn_cons, List.forIn_nil]
    refine wpAny_bind (wpAny_bind ?_)
    refine se_end (s := { s with heap := g2 }) hh ((S2.ext sg.extBut D.i2z D.l2z).ext b2 D.i12.symm D.l2i1) e2 fun g4 b4 => ?_
    refine wpAny_pure (wpAny_pure (wpAny_bind (wpAny_rule (stop_up hh fun g5 e b5 he => ?_))))
    exact hE g5 e (fun m o n1 n3 n4 q => b5 _ _ (b4 _ _ n4 (b2 _ _ n3 (sg.extBut _ _ n1 q)))) he
  | false =>
    cases hx : xs[k1]? with
    | none =>
      refine wpAny_bind (si_end (s := { s with heap := g1 }) hh (S1.ext sg.extBut D.i1z D.l1z) hx fun g2 e b2 he => ?_)
      exact hE g2 e (fun m o n1 n3 _ q => b2 _ _ n3 (sg.extBut _ _ n1 q)) he
    | some x =>
      have hy : ys[k2]? = none := hend.resolve_left (by rw [hx]; simp)
      refine wpAny_bind (si_item (s := { s with heap := g1 }) (S1.ext sg.extBut D.i1z D.l1z) D.l1i1 hx fun g2 T1 b2 => wpAny_pure (wpAny_pure ?_))
      refine wpAny_bind (wpAny_bind (wpAny_holding ?_))
      show wpAny (model prog w) A (zd false (.ref i2)) _ _ _
      refine wpAny_bind (si_end (s := { s with heap := g2 }) hh ((S2.ext sg.extBut D.i2z D.l2z).ext b2.extBut D.i12.symm D.l2i1) hy fun g4 e b4 he => ?_)
      exact hE g4 e (fun m o n1 n3 n4 q => b4 _ _ n4 (b2.extBut _ _ n3 (sg.extBut _ _ n1 q))) he
theorem ph_item {b q1 q2 f : Bool} {z TI TO T i1 i2 l1 l2 : Addr} {ob : Obj} {k1 k2 : Nat} {xs ys : Array Value} {x y : Value} {Q : Option Value → Shared → Prop} (D : ZipApart z TI TO i1 i2 l1 l2) (hz : IsZh b s.heap z TI TO T f) (hT : s.heap.get? T = some ob) (pI : IsPair s.heap TI (.ref i1) (.ref i2))
    (S1 : SI q1 s.heap i1 l1 k1 xs) (S2 : SI q2 s.heap i2 l2 k2 ys) (hx : xs[k1]? = some x) (hy : ys[k2]? = some y)
    (hQ : ∀ h', IsZh b h' z TI TO T true → SI q1 h' i1 l1 (k1 + 1) xs → SI q2 h' i2 l2 (k2 + 1) ys → IsPair h' s.heap.objs.size x y → h'.objs.size = s.heap.objs.size + 1 →
      (∀ m o, m ≠ z → m ≠ i1 → m ≠ i2 → s.heap.get? m = some o → h'.get? m = some o) → Q (some (.ref s.heap.objs.size)) { s with heap := h' }) : wpAny (model prog w) A (pyNext (.ref z)) Q E s := by
  have ty : s.TypeIs (.ref z) "zip" := ⟨_, hz, rfl⟩
  unfold pyNext
  exact wpAny_bind (wpAny_attempt (wpAny_callSpecial?_slot (name := Str.ofString "__next__") ty F.slot_zip_next
    (wpAny_call_entry F.slot_zip_next ty F.entry_zip_next (zh_item D hz hT pI S1 S2 hx hy fun h' a1 a2 a3 a4 a5 a6 => wpAny_pure (hQ h' a1 a2 a3 a4 a5 a6)) (F.args_zip_next_1 _))))
theorem ph_end {b q1 q2 f : Bool} {z TI TO T i1 i2 l1 l2 : Addr} {ob : Obj} {k1 k2 : Nat} {xs ys : Array Value} {Q : Option Value → Shared → Prop} (hh : A.handled = none) (D : ZipApart z TI TO i1 i2 l1 l2) (hz : IsZh b s.heap z TI TO T f) (hT : s.heap.get? T = some ob) (pI : IsPair s.heap TI (.ref i1) (.ref i2))
    (S1 : SI q1 s.heap i1 l1 k1 xs) (S2 : SI q2 s.heap i2 l2 k2 ys) (hend : xs[k1]? = none ∨ ys[k2]? = none) (hst : b = true → xs[k1]? = none ∧ ys[k2]? = none)
    (hQ : ∀ h', (∀ m o, m ≠ z → m ≠ i1 → m ≠ i2 → s.heap.get? m = some o → h'.get? m = some o) → Q none { s with heap := h' }) : wpAny (model prog w) A (pyNext (.ref z)) Q E s := by
  have ty : s.TypeIs (.ref z) "zip" := ⟨_, hz, rfl⟩
  unfold pyNext
  refine wpAny_bind (wpAny_attempt (wpAny_callSpecial?_slot (name := Str.ofString "__next__") ty F.slot_zip_next
    (wpAny_call_entry F.slot_zip_next ty F.entry_zip_next (zh_end hh D hz hT pI S1 S2 hend hst fun h' e hk he => ?_) (F.args_zip_next_1 _))))
  obtain ⟨o, ho, hc⟩ := he
  exact wpAny_bind (wpAny_isInstance (T := "StopIteration") (b := true) ⟨o, ho, hc⟩ isSubtype_stop (wpAny_pure (hQ _ hk)))
end
/-- a zip on its way, its tuple never given back; lo: all that it made lies above -/
structure ZSt (b : Bool) (lo : Addr) (h : Heap) (z TI TO i1 i2 : Addr) : Prop where
  is : (IsZ b h z TI TO .none ∧ ∃ x y, IsPair h TO x y) ∨ ∃ T f o, IsZh b h z TI TO T f ∧ h.get? T = some o ∧ lo < T ∧ T ≠ z ∧ T ≠ i1 ∧ T ≠ i2
  pI : IsPair h TI (.ref i1) (.ref i2)
section
variable {prog : Program} {w : World} {A : Around} {E : Value → Shared → Prop} {s : Shared}
theorem zs_item {b q1 q2 : Bool} {lo z TI TO i1 i2 l1 l2 : Addr} {k : Nat} {xs ys : Array Value} {x y : Value} {Q : Option Value → Shared → Prop} (D : ZipApart z TI TO i1 i2 l1 l2) (hz : ZSt b lo s.heap z TI TO i1 i2) (hlo : lo < s.heap.objs.size)
    (S1 : SI q1 s.heap i1 l1 k xs) (S2 : SI q2 s.heap i2 l2 k ys) (hx : xs[k]? = some x) (hy : ys[k]? = some y)
    (hQ : ∀ h', ZSt b lo h' z TI TO i1 i2 → SI q1 h' i1 l1 (k + 1) xs → SI q2 h' i2 l2 (k + 1) ys → IsPair h' s.heap.objs.size x y → h'.objs.size = s.heap.objs.size + 1 →
      (∀ m o, m ≠ z → m ≠ TO → m ≠ i1 → m ≠ i2 → s.heap.get? m = some o → h'.get? m = some o) → Q (some (.ref s.heap.objs.size)) { s with heap := h' }) : wpAny (model prog w) A (pyNext (.ref z)) Q E s := by
  have pI := hz.pI
  have l1 : i1 < s.heap.objs.size := by obtain ⟨o, e, _⟩ := S1.it.obj; exact Heap.lt_size e
  have l2 : i2 < s.heap.objs.size := by obtain ⟨o, e, _⟩ := S2.it.obj; exact Heap.lt_size e
  rcases hz.is with ⟨hz, x0, y0, pO⟩ | ⟨T, f, o, hz, hT, hl, n1, n2, n3⟩
  · have lz : z < s.heap.objs.size := Heap.lt_size hz
    refine pn_item D hz pI pO S1 S2 hx hy fun h' z' pO' S1' S2' hT hsz hk => hQ h' ⟨.inr ⟨s.heap.objs.size, false, _, z', hT, hlo, Nat.ne_of_gt lz, Nat.ne_of_gt l1, Nat.ne_of_gt l2⟩, hk _ _ D.TIz D.TITO D.TIi1 D.TIi2 pI⟩ S1' S2' hT hsz hk
  · refine ph_item D hz hT pI S1 S2 hx hy fun h' z' S1' S2' hN hsz hk => hQ h' ⟨.inr ⟨T, true, o, z', hk _ _ n1 n2 n3 hT, hl, n1, n2, n3⟩, hk _ _ D.TIz D.TIi1 D.TIi2 pI⟩ S1' S2' hN hsz fun m o a1 _ a3 a4 e => hk m o a1 a3 a4 e
theorem zs_end {b q1 q2 : Bool} {lo z TI TO i1 i2 l1 l2 : Addr} {k : Nat} {xs ys : Array Value} {Q : Option Value → Shared → Prop} (hh : A.handled = none) (D : ZipApart z TI TO i1 i2 l1 l2) (hz : ZSt b lo s.heap z TI TO i1 i2)
    (S1 : SI q1 s.heap i1 l1 k xs) (S2 : SI q2 s.heap i2 l2 k ys) (hend : xs[k]? = none ∨ ys[k]? = none) (hst : b = true → xs[k]? = none ∧ ys[k]? = none)
    (hQ : ∀ h', (∀ m o, m ≠ z → m ≠ TO → m ≠ i1 → m ≠ i2 → s.heap.get? m = some o → h'.get? m = some o) → Q none { s with heap := h' }) : wpAny (model prog w) A (pyNext (.ref z)) Q E s := by
  have pI := hz.pI
  rcases hz.is with ⟨hz, x0, y0, pO⟩ | ⟨T, f, o, hz, hT, hl, n1, n2, n3⟩
  · exact pn_end hh D hz pI pO S1 S2 hend hst hQ
  · exact ph_end hh D hz hT pI S1 S2 hend hst fun h' hk => hQ h' fun m o a1 _ a3 a4 e => hk m o a1 a3 a4 e
end
/-- the pairs that were laid -/
structure ZGot (xs ys : Array Value) (lo : Addr) (h : Heap) (as : List Addr) : Prop where
  rise : as.Pairwise (· < ·)
  above : ∀ a ∈ as, lo < a
  pairs : ∀ (j : Nat) (a : Addr), as[j]? = some a → ∃ x y, xs[j]? = some x ∧ ys[j]? = some y ∧ IsPair h a x y
theorem ZGot.there {xs ys : Array Value} {lo : Addr} {h : Heap} {as : List Addr} (g : ZGot xs ys lo h as) {a : Addr} (ha : a ∈ as) : a < h.objs.size := by
  obtain ⟨j, hj⟩ := List.mem_iff_getElem?.mp ha
  obtain ⟨_, _, _, _, e⟩ := g.pairs j a hj
  exact Heap.lt_size e
theorem ZSt.keep {b : Bool} {lo z TI TO i1 i2 S : Addr} {h h' : Heap} (x : ZSt b lo h z TI TO i1 i2) (hk : ∀ m o, m ≠ S → h.get? m = some o → h'.get? m = some o) (n1 : z ≠ S) (n2 : TI ≠ S) (n3 : TO ≠ S) (hS : S ≤ lo) : ZSt b lo h' z TI TO i1 i2 := by
  refine ⟨?_, hk _ _ n2 x.pI⟩
  rcases x.is with ⟨hz, x0, y0, pO⟩ | ⟨T, f, o, hz, hT, hl, a1, a2, a3⟩
  · exact .inl ⟨hk _ _ n1 hz, x0, y0, hk _ _ n3 pO⟩
  · exact .inr ⟨T, f, o, hk _ _ n1 hz, hk _ _ (by intro e; rw [e] at hl; exact absurd hl (Nat.not_lt.mpr hS)) hT, hl, a1, a2, a3⟩
section
variable {prog : Program} {w : World} {A : Around} {s : Shared} {R : Result → Shared → Prop} {xs ys : Array Value}
theorem zl_loop {b q1 q2 : Bool} {S z TI TO i1 i2 l1 l2 : Addr} (hh : A.handled = none) (D : ZipApart z TI TO i1 i2 l1 l2) (n1 : z ≠ S) (n2 : TI ≠ S) (n3 : TO ≠ S) (n4 : i1 ≠ S) (n5 : i2 ≠ S) (n6 : l1 ≠ S) (n7 : l2 ≠ S) (m1 : z < S) (m3 : TO < S) (m4 : i1 < S) (m5 : i2 < S) (hb : b = true → xs.size = ys.size) (hn : min xs.size ys.size ≤ sizeLine) (res : Value) {h₁ : Heap}
    (hR : ∀ h' tk acc c as, (∀ m o, m ≠ S → m ≠ z → m ≠ TO → m ≠ i1 → m ≠ i2 → h₁.get? m = some o → h'.get? m = some o) → h'.get? S = some { cls := .type "list", dict := none, data := .seq acc c, slots := #[] } → as.length = min xs.size ys.size → ZGot xs ys S h' as →
      acc.toList = as.map Value.ref → R (.ok (.ret res)) { s with heap := h', toks := tk }) :
    ∀ (k i : Nat) (h : Heap) (tk c : Nat) (acc : Array Value) (as : List Addr), min xs.size ys.size - i = k → i ≤ min xs.size ys.size → ZSt b S h z TI TO i1 i2 → SI q1 h i1 l1 i xs → SI q2 h i2 l2 i ys → (∀ m o, m ≠ S → m ≠ z → m ≠ TO → m ≠ i1 → m ≠ i2 → h₁.get? m = some o → h.get? m = some o) →
      h.get? S = some { cls := .type "list", dict := none, data := .seq acc c, slots := #[] } → acc.toList = as.map Value.ref → as.length = i → ZGot xs ys S h as →
      codeAny (model prog w) A (.builtin "list.extend.loop" ⟨[.ref S, .ref z, res], []⟩) R { s with heap := h, toks := tk } := by
  intro k
  induction k with
  | zero =>
    intro i h tk c acc as hk hi hst S1 S2 keep hS hacc hal hG
    refine codeAny_builtin PySem.F.entry_extend_loop ?_
    rw [Around.under_plainId PySem.F.plain_extend_loop _]
    show wpAny (model prog w) A.in1 (pyNext (.ref z) >>= _) _ _ _
    have hi' : i = min xs.size ys.size := by omega
    refine wpAny_bind (zs_end (s := { s with heap := h, toks := tk }) (A := A.in1) hh D hst S1 S2 ?_ ?_ fun h' he => ?_)
    · rcases Nat.le_total xs.size ys.size with q | q
      · exact .inl (Array.getElem?_eq_none (by omega))
      · exact .inr (Array.getElem?_eq_none (by omega))
    · intro e
      have := hb e
      exact ⟨Array.getElem?_eq_none (by omega), Array.getElem?_eq_none (by omega)⟩
    · refine wpAny_pure (hR h' tk acc c as (fun m o a0 a1 a2 a3 a4 e => he m o a1 a2 a3 a4 (keep m o a0 a1 a2 a3 a4 e)) (he S _ n1.symm n3.symm n4.symm n5.symm hS) (by omega) ⟨hG.rise, hG.above, fun j a hj => ?_⟩ hacc)
      obtain ⟨x, y, e1, e2, e3⟩ := hG.pairs j a hj
      have ab := hG.above a (List.mem_of_getElem? hj)
      exact ⟨x, y, e1, e2, he a _ (Nat.ne_of_gt (Nat.lt_trans m1 ab)) (Nat.ne_of_gt (Nat.lt_trans m3 ab)) (Nat.ne_of_gt (Nat.lt_trans m4 ab)) (Nat.ne_of_gt (Nat.lt_trans m5 ab)) e3⟩
  | succ k ih =>
    intro i h tk c acc as hk hi hst S1 S2 keep hS hacc hal hG
    have g1 : i < xs.size := by omega
    have g2 : i < ys.size := by omega
    have hsz : acc.size = i := by rw [← Array.length_toList, hacc, List.length_map, hal]
    refine codeAny_builtin PySem.F.entry_extend_loop ?_
    rw [Around.under_plainId PySem.F.plain_extend_loop _]
    show wpAny (model prog w) A.in1 (pyNext (.ref z) >>= _) _ _ _
    refine wpAny_bind (zs_item (s := { s with heap := h, toks := tk }) D hst (Heap.lt_size hS) S1 S2 (Array.getElem?_eq_getElem g1) (Array.getElem?_eq_getElem g2) fun h' hst' T1 T2 ht hz hkp => ?_)
    dsimp only at ht hz hkp ⊢
    have hS' := hkp S _ n1.symm n3.symm n4.symm n5.symm hS
    have up : ∀ m o, m ≠ S → h'.get? m = some o → (h'.update S (Obj.mapSeq (·.push (Value.ref h.objs.size)))).get? m = some o := fun m o hm e => (Heap.get?_update_other _ _ (Ne.symm hm)).trans e
    have hSl : S < h.objs.size := Heap.lt_size hS
    show wpAny (model prog w) A.in1 (updateSeq S (·.push (Value.ref h.objs.size)) >>= _) _ _ _
    refine wpAny_bind ?_
    refine wpAny_updateSeq hS' rfl (wpAny_pure ⟨plainId_quiet PySem.F.plain_extend_loop _, ih (i + 1) _ tk _ (acc.push (Value.ref h.objs.size)) (as ++ [h.objs.size]) (by omega) (by omega) (hst'.keep up n1 n2 n3 (Nat.le_refl _)) (T1.kept (fun o e => up _ o n4 e) fun o e => up _ o n6 e) (T2.kept (fun o e => up _ o n5 e) fun o e => up _ o n7 e)
      (fun m o a0 a1 a2 a3 a4 e => up m o a0 (hkp m o a1 a2 a3 a4 (keep m o a0 a1 a2 a3 a4 e))) (Heap.get?_update_self _ hS' rfl) (by rw [Array.toList_push, hacc, List.map_append]; rfl) (by rw [List.length_append, hal]; rfl) ⟨?_, ?_, ?_⟩⟩) (by rw [hsz]; omega) (by show (acc.push (Value.ref h.objs.size)).size ≤ sizeLine + 1; rw [Array.size_push, hsz]; omega)
    · refine List.pairwise_append.mpr ⟨hG.rise, List.pairwise_singleton _ _, fun a ha m hm => ?_⟩
      cases List.mem_singleton.mp hm
      exact hG.there ha
    · intro a ha
      rcases List.mem_append.mp ha with ha | ha
      · exact hG.above a ha
      · cases List.mem_singleton.mp ha; exact hSl
    · intro j a hj
      by_cases q : j < as.length
      · rw [List.getElem?_append_left q] at hj
        obtain ⟨x, y, e1, e2, e3⟩ := hG.pairs j a hj
        have ab := hG.above a (List.mem_of_getElem? hj)
        exact ⟨x, y, e1, e2, up a _ (Nat.ne_of_gt ab) (hkp a _ (Nat.ne_of_gt (Nat.lt_trans m1 ab)) (Nat.ne_of_gt (Nat.lt_trans m3 ab)) (Nat.ne_of_gt (Nat.lt_trans m4 ab)) (Nat.ne_of_gt (Nat.lt_trans m5 ab)) e3)⟩
      · by_cases q2 : j = as.length
        · subst q2
          have e : h.objs.size = a := by simpa using hj
          subst e
          exact ⟨xs[i], ys[i], by rw [hal]; exact Array.getElem?_eq_getElem g1, by rw [hal]; exact Array.getElem?_eq_getElem g2, up _ _ (Nat.ne_of_gt hSl) ht⟩
        · rw [List.getElem?_eq_none (by rw [List.length_append, List.length_singleton]; omega)] at hj
          cases hj
end
theorem zip_nolen : typeLookup (.type "zip") "__len__" = pure none := by rw [typeLookup_type, builtinLookup_eq_fast]; kernel_rfl
theorem zip_nohint : typeLookup (.type "zip") "__length_hint__" = pure none := by rw [typeLookup_type, builtinLookup_eq_fast]; kernel_rfl
section
variable {prog : Program} {w : World} {A : Around} {E : Value → Shared → Prop} {s : Shared}
theorem zl_hint {z : Addr} (hT : s.TypeIs (.ref z) "zip") {Q : Bool → Shared → Prop} (h : Q true s) : wpAny (model prog w) A (Builtin.List.listLengthHint (.ref z)) Q E s := by
  unfold Builtin.List.listLengthHint
  refine wpAny_bind (wpAny_specialOf hT zip_nolen ?_)
  show wpAny (model prog w) A (specialOf (.ref z) "__length_hint__" >>= _) _ _ _
  refine wpAny_bind (wpAny_specialOf hT zip_nohint ?_)
  exact wpAny_pure h
theorem zl_init {b q1 q2 : Bool} {S z TI TO i1 i2 l1 l2 : Addr} {xs ys : Array Value} {R : Result → Shared → Prop} (hh : A.handled = none) (D : ZipApart z TI TO i1 i2 l1 l2) (n6 : l1 ≠ S) (n7 : l2 ≠ S) (m1 : z < S) (m2 : TI < S) (m3 : TO < S) (m4 : i1 < S) (m5 : i2 < S) (hb : b = true → xs.size = ys.size) (hn : min xs.size ys.size ≤ sizeLine)
    (hz : IsZ b s.heap z TI TO .none) (pI : IsPair s.heap TI (.ref i1) (.ref i2)) {x0 y0 : Value} (pO : IsPair s.heap TO x0 y0) (S1 : SI q1 s.heap i1 l1 0 xs) (S2 : SI q2 s.heap i2 l2 0 ys) (hS : s.heap.get? S = some { cls := .type "list", data := .seq #[] })
    (hR : ∀ h' tk acc c as, (∀ m o, m ≠ S → m ≠ z → m ≠ TO → m ≠ i1 → m ≠ i2 → s.heap.get? m = some o → h'.get? m = some o) → h'.get? S = some { cls := .type "list", dict := none, data := .seq acc c, slots := #[] } → as.length = min xs.size ys.size → ZGot xs ys S h' as →
      acc.toList = as.map Value.ref → R (.ok (.ret .none)) { s with heap := h', toks := tk }) :
    wpAny (model prog w) A.in1 (Builtin.«list.__init__» ⟨[.ref S, .ref z], []⟩)
      (fun fin s' => match fin with | .done f => R (.ok f) s' | .again c' => c'.quiet = true ∧ codeAny (model prog w) A c' R s') (fun e s' => R (.error e) s') s := by
  have ne : ∀ {m : Addr}, m < S → m ≠ S := fun h => Nat.ne_of_lt h
  show wpAny (model prog w) A.in1 (do let old ← Builtin.List.listItems (.ref S); Builtin.List.listUpdate (.ref S) (fun _ => #[]); letGo old.toList.reverse; Builtin.List.listExtendWith (.ref S) (.ref z) .none) _ _ s
  refine wpAny_bind ?_
  unfold Builtin.List.listItems
  refine wpAny_bind (wpAny_seqItems hS rfl (wpAny_pure ?_))
  show wpAny (model prog w) A.in1 (updateSeq S (fun _ => #[]) >>= fun _ => letGo (#[] : Array Value).toList.reverse >>= fun _ => Builtin.List.listExtendWith (.ref S) (.ref z) .none) _ _ s
  refine wpAny_bind (wpAny_updateSeq hS rfl ?_)
  have hS1 := Heap.get?_update_self (Obj.mapSeq (fun _ => (#[] : Array Value))) hS rfl
  have o1 : ∀ m o, m ≠ S → s.heap.get? m = some o → (s.heap.update S (Obj.mapSeq (fun _ => (#[] : Array Value)))).get? m = some o := fun m o hm e => (Heap.get?_update_other _ _ (Ne.symm hm)).trans e
  generalize s.heap.update S (Obj.mapSeq (fun _ => (#[] : Array Value))) = g1 at hS1 o1
  refine wpAny_bind (wpAny_letGo ?_)
  have zz := o1 _ _ (ne m1) hz
  have hT : Shared.TypeIs { s with heap := g1 } (.ref z) "zip" := ⟨_, zz, rfl⟩
  unfold Builtin.List.listExtendWith
  refine wpAny_bind (wpAny_typeOf (T := "zip") hT ?_)
  have h1 : Builtin.List.listSameRef (.ref S) (.ref z) = false := by simp [Builtin.List.listSameRef, (ne m1).symm]
  have h2 : (Value.type "zip" == Value.type "list") = false := by decide
  have h3 : (Value.type "zip" == Value.type "tuple") = false := by decide
  simp only [h1, h2, h3, Bool.or_false, Bool.false_eq_true, if_false]
  refine wpAny_bind (it_zip (s := { s with heap := g1 }) zz ?_)
  refine wpAny_bind (wpAny_holding (zl_hint (s := { s with heap := g1 }) hT ?_))
  simp only [Bool.true_or, if_true]
  refine wpAny_bind (wpAny_rule ?_)
  refine wpAny_bind ?_
  show wpAny (model prog w) A.in1 (updateSeq S (·.push .none) >>= fun _ => updateSeq S (·.pop)) _ _ _
  refine wpAny_bind (wpAny_updateSeq (s := { s with heap := g1 }) hS1 rfl ?_)
  have hS2 := Heap.get?_update_self (Obj.mapSeq (·.push Value.none)) hS1 rfl
  have o2 : ∀ m o, m ≠ S → s.heap.get? m = some o → (g1.update S (Obj.mapSeq (·.push Value.none))).get? m = some o := fun m o hm e => (Heap.get?_update_other _ _ (Ne.symm hm)).trans (o1 m o hm e)
  generalize g1.update S (Obj.mapSeq (·.push Value.none)) = g2 at hS2 o2
  refine wpAny_updateSeq (s := { s with heap := g2 }) (hz := by seq_fits) hS2 rfl ?_
  have hS3 := Heap.get?_update_self (Obj.mapSeq (·.pop)) hS2 rfl
  have o3 : ∀ m o, m ≠ S → s.heap.get? m = some o → (g2.update S (Obj.mapSeq (·.pop))).get? m = some o := fun m o hm e => (Heap.get?_update_other _ _ (Ne.symm hm)).trans (o2 m o hm e)
  generalize g2.update S (Obj.mapSeq (·.pop)) = g3 at hS3 o3
  refine wpAny_pure ⟨plainId_quiet PySem.F.plain_extend_loop _, zl_loop (s := s) (h₁ := s.heap) (q1 := q1) (q2 := q2) hh D (ne m1) (ne m2) (ne m3) (ne m4) (ne m5) n6 n7 m1 m3 m4 m5 hb hn .none hR
    _ 0 g3 _ _ #[] [] rfl (Nat.zero_le _) ⟨.inl ⟨o3 _ _ (ne m1) hz, x0, y0, o3 _ _ (ne m3) pO⟩, o3 _ _ (ne m2) pI⟩ (S1.kept (fun o e => o3 _ o (ne m4) e) fun o e => o3 _ o n6 e) (S2.kept (fun o e => o3 _ o (ne m5) e) fun o e => o3 _ o n7 e) (fun m o a0 _ _ _ _ e => o3 m o a0 e) hS3 rfl rfl
    ⟨List.Pairwise.nil, (fun _ ha => nomatch ha), (fun j a hj => by simp at hj)⟩⟩
theorem zl_call {b q1 q2 : Bool} {z TI TO i1 i2 l1 l2 : Addr} {xs ys : Array Value} {Q : Value → Shared → Prop} (hh : A.handled = none) (D : ZipApart z TI TO i1 i2 l1 l2) (hb : b = true → xs.size = ys.size) (hn : min xs.size ys.size ≤ sizeLine)
    (hz : IsZ b s.heap z TI TO .none) (pI : IsPair s.heap TI (.ref i1) (.ref i2)) {x0 y0 : Value} (pO : IsPair s.heap TO x0 y0) (S1 : SI q1 s.heap i1 l1 0 xs) (S2 : SI q2 s.heap i2 l2 0 ys) (hl1 : l1 < s.heap.objs.size) (hl2 : l2 < s.heap.objs.size)
    (hQ : ∀ h' tk acc c as, (∀ m o, m ≠ z → m ≠ TO → m ≠ i1 → m ≠ i2 → s.heap.get? m = some o → h'.get? m = some o) → h'.get? s.heap.objs.size = some { cls := .type "list", dict := none, data := .seq acc c, slots := #[] } → as.length = min xs.size ys.size → ZGot xs ys s.heap.objs.size h' as →
      acc.toList = as.map Value.ref → Q (.ref s.heap.objs.size) { s with heap := h', toks := tk }) :
    wpAny (model prog w) A (call (.type "list") [.ref z]) Q E s := by
  refine callType_codes (Q₁ := fun ob s1 => ob = .ref s.heap.objs.size ∧ s1 = { s with heap := s.heap.push { cls := .type "list", data := .seq #[] } }) PySem.F.called_list (PySem.F.typeCall_list_1 _) PySem.F.entry_list_init (code_list_new _ ⟨rfl, rfl⟩) fun ob s1 h1 => ?_
  obtain ⟨rfl, rfl⟩ := h1
  have hS : (s.heap.push { cls := .type "list", data := .seq #[] }).get? s.heap.objs.size = some { cls := .type "list", data := .seq #[] } := Heap.get?_push_size _ rfl
  have li1 : i1 < s.heap.objs.size := by obtain ⟨o, e, _⟩ := S1.it.obj; exact Heap.lt_size e
  have li2 : i2 < s.heap.objs.size := by obtain ⟨o, e, _⟩ := S2.it.obj; exact Heap.lt_size e
  have up : ∀ m o, s.heap.get? m = some o → (s.heap.push { cls := .type "list", data := .seq #[] }).get? m = some o := fun m o e => Heap.get?_push_of_some _ e
  refine ⟨⟨_, hS, rfl⟩, PySem.F.args_list_init_2 _ _, zl_init (s := { s with heap := s.heap.push { cls := .type "list", data := .seq #[] } }) (A := A.in1) (q1 := q1) (q2 := q2) hh D (Nat.ne_of_lt hl1) (Nat.ne_of_lt hl2) (Heap.lt_size hz) (Heap.lt_size pI) (Heap.lt_size pO) li1 li2 hb hn (up _ _ hz) (up _ _ pI) (up _ _ pO) (S1.kept (up _) (up _)) (S2.kept (up _) (up _)) hS fun h' tk acc c as hk hS' hl hG hacc => ?_⟩
  exact ⟨rfl, hQ h' tk acc c as (fun m o a1 a2 a3 a4 e => hk m o (Nat.ne_of_lt (Heap.lt_size e)) a1 a2 a3 a4 (up m o e)) hS' hl hG hacc⟩
end
end Ev
end
section
set_option maxRecDepth 10000
set_option maxHeartbeats 2000000
/-! enumerate of a list, a tuple, a zip of such -/
namespace Ev
open PySem PySem.Spec PyProof.Rows L2
theorem new_enuK (q : Bool) (l : Addr) (xs : Array Value) :
    Meets (Builtin.«enumerate.__new__» ⟨[.type "enumerate", .ref l], []⟩) (fun _ R s => objK q s.heap l xs ∧ R (.ok (.ret (.ref (zh1 q s.heap l).objs.size))) { s with heap := (zh1 q s.heap l).push { cls := .type "enumerate", data := .fields #[.none, .bool false, .ref s.heap.objs.size, rawInt 0, .none, .none] } }) :=
  .of_wp fun prog w A R s h => by
    obtain ⟨hp, g, d, tk, os⟩ := s
    obtain ⟨p, h⟩ := h
    have hsub := sub_enumerate
    have L : objK q (Shared.heap ⟨hp, g, d, tk, os⟩) l xs := p
    obtain ⟨ob, ho⟩ : ∃ ob, hp.get? l = some ob := by
      cases q with
      | true => obtain ⟨o, e, _⟩ := p; exact ⟨o, e⟩
      | false => obtain ⟨o, e, _⟩ := p; exact ⟨o, e⟩
    wp_walk using wpAny_loadPart_at ho
    refine wpAny_stack_any fun st => wpAny_pure ?_
    split
    · rename_i c _ _ _ _ _
      cases (c == Value.type "enumerate")
      · wp_walk using wpAny_loadPart_at ho, iter_k L
        exact ⟨_, rfl, h⟩
      · wp_walk using wpAny_loadPart_at ho, iter_k L
        exact ⟨_, rfl, h⟩
    · wp_walk using wpAny_loadPart_at ho, iter_k L
      exact ⟨_, rfl, h⟩
theorem new_enuZ (b : Bool) (z TI TO : Addr) :
    Meets (Builtin.«enumerate.__new__» ⟨[.type "enumerate", .ref z], []⟩) (fun _ R s => IsZ b s.heap z TI TO .none ∧ R (.ok (.ret (.ref s.heap.objs.size))) { s with heap := s.heap.push { cls := .type "enumerate", data := .fields #[.none, .bool false, .ref z, rawInt 0, .none, .none] } }) :=
  .of_wp fun prog w A R s h => by
    obtain ⟨hp, g, d, tk, os⟩ := s
    obtain ⟨p, h⟩ := h
    have hsub := sub_enumerate
    have L : IsZ b (Shared.heap ⟨hp, g, d, tk, os⟩) z TI TO .none := p
    wp_walk using wpAny_loadPart_at p
    refine wpAny_stack_any fun st => wpAny_pure ?_
    split
    · rename_i c _ _ _ _ _
      cases (c == Value.type "enumerate")
      · wp_walk using wpAny_loadPart_at p, it_zip L
        exact ⟨_, rfl, h⟩
      · wp_walk using wpAny_loadPart_at p, it_zip L
        exact ⟨_, rfl, h⟩
    · wp_walk using wpAny_loadPart_at p, it_zip L
      exact ⟨_, rfl, h⟩
section
variable {prog : Program} {w : World} {A : Around} {E : Value → Shared → Prop} {s : Shared}
theorem call_enuK {q : Bool} {l : Addr} {xs : Array Value} {Q : Value → Shared → Prop} (p : objK q s.heap l xs)
    (h : ∀ h', IsEnum h' (s.heap.objs.size + 1) s.heap.objs.size 0 .none → itK q h' s.heap.objs.size l 0 → (∀ b o, s.heap.get? b = some o → h'.get? b = some o) → Q (.ref (s.heap.objs.size + 1)) { s with heap := h' }) :
    wpAny (model prog w) A (call (.type "enumerate") [.ref l]) Q E s := by
  refine callType_new F.called_enumerate (by decide) (F.typeCall_enumerate_1 _) (F.newCall_enumerate_1 _) (fun obj => F.args_object_init_2 obj _) F.entry_enumerate_new (new_enuK q l xs) ⟨p, ?_⟩
  have z1 : (zh1 q s.heap l).objs.size = s.heap.objs.size + 1 := Heap.size_push ..
  have g1 := Heap.get?_push_size (zh1 q s.heap l) (o := { cls := .type "enumerate", data := .fields #[.none, .bool false, .ref s.heap.objs.size, rawInt 0, .none, .none] }) rfl
  have g2 : ((zh1 q s.heap l).push { cls := .type "enumerate", data := .fields #[.none, .bool false, .ref s.heap.objs.size, rawInt 0, .none, .none] }).get? s.heap.objs.size = some _ := Heap.get?_push_of_some _ (Heap.get?_push_size _ rfl)
  show _ ∧ _
  rw [z1] at g1 ⊢
  refine ⟨⟨_, g1, rfl⟩, h _ g1 ?_ fun b o x => Heap.get?_push_of_some _ (Heap.get?_push_of_some _ x)⟩
  cases q <;> exact ⟨_, g2, rfl, rfl⟩
theorem call_enuZ {b : Bool} {z TI TO : Addr} {Q : Value → Shared → Prop} (p : IsZ b s.heap z TI TO .none)
    (h : ∀ h', IsEnum h' s.heap.objs.size z 0 .none → (∀ b o, s.heap.get? b = some o → h'.get? b = some o) → Q (.ref s.heap.objs.size) { s with heap := h' }) :
    wpAny (model prog w) A (call (.type "enumerate") [.ref z]) Q E s := by
  refine callType_new F.called_enumerate (by decide) (F.typeCall_enumerate_1 _) (F.newCall_enumerate_1 _) (fun obj => F.args_object_init_2 obj _) F.entry_enumerate_new (new_enuZ b z TI TO) ⟨p, ?_⟩
  have g1 := Heap.get?_push_size s.heap (o := { cls := .type "enumerate", data := .fields #[.none, .bool false, .ref z, rawInt 0, .none, .none] }) rfl
  exact ⟨⟨_, g1, rfl⟩, h _ g1 fun b o x => Heap.get?_push_of_some _ x⟩
/-- one step, behind the inner one's -/
theorem en_item {e it : Addr} {i : Int} {old : Value} {Q : Value → Shared → Prop} (he : IsEnum s.heap e it i old)
    (hin : wpAny (model prog w) A (Builtin.SmallTypes.nextOf (.ref it)) (fun x s1 => ∃ g, s1 = { s with heap := g } ∧ IsEnum g e it i old ∧
      ∀ g2, IsEnumOut g2 e it (i + 1) x g.objs.size → g2.get? g.objs.size = some { cls := .type "tuple", data := .seq #[.int i s.toks, x] } → g2.objs.size = g.objs.size + 1 → (∀ b o, b ≠ e → g.get? b = some o → g2.get? b = some o) → Q (.ref g.objs.size) { s with heap := g2, toks := s.toks + 1 }) E s) :
    wpAny (model prog w) A (Builtin.«enumerate.__next__» ⟨[.ref e], []⟩) (fun fin s' => ∃ v, fin = .done (.ret v) ∧ Q v s') E s := by
  obtain ⟨hp, gn, d, tk, os⟩ := s
  show wpAny _ _ (field (.ref e) 2 >>= _) _ _ _
  refine wpAny_bind (wpAny_field he rfl (x := .ref it) rfl ?_)
  refine wpAny_bind (wpAny_mono hin (fun x s1 hx => ?_) fun _ _ z => z)
  obtain ⟨g, rfl, e1, q⟩ := hx
  have le : e < g.objs.size := Heap.lt_size e1
  show wpAny _ _ (field (.ref e) 3 >>= _) _ _ ⟨g, gn, d, tk, os⟩
  refine wpAny_bind (wpAny_field e1 rfl (x := rawInt i) rfl ?_)
  show wpAny _ _ (field (.ref e) 4 >>= _) _ _ ⟨g, gn, d, tk, os⟩
  refine wpAny_bind (wpAny_field e1 rfl (x := .none) rfl ?_)
  show wpAny _ _ (mkInt i >>= _) _ _ ⟨g, gn, d, tk, os⟩
  refine wpAny_bind (wpAny_mkInt ?_)
  show wpAny _ _ (setField (.ref e) 3 (rawInt (i + 1)) >>= _) _ _ ⟨g, gn, d, tk + 1, os⟩
  refine wpAny_bind (wpAny_setField_rec e1 (by simp) fun g2 e2 b2 => ?_)
  replace e2 : IsEnum g2 e it (i + 1) old := e2
  replace b2 : Heap.SameBut e g g2 := b2
  show wpAny _ _ (setField (.ref e) 4 .none >>= _) _ _ ⟨g2, gn, d, tk + 1, os⟩
  refine wpAny_bind (wpAny_setField_rec e2 (by simp) fun g3 e3 b3 => ?_)
  replace e3 : IsEnum g3 e it (i + 1) old := e3
  replace b3 : Heap.SameBut e g2 g3 := b3
  show wpAny _ _ (newTuple [.int i tk, x] >>= _) _ _ ⟨g3, gn, d, tk + 1, os⟩
  refine wpAny_bind (wpAny_newTuple ?_)
  have e4 : IsEnum (g3.push { cls := .type "tuple", data := .seq #[.int i tk, x] }) e it (i + 1) old := Heap.get?_push_of_some _ e3
  have sz : g3.objs.size = g.objs.size := by rw [b3.1, b2.1]
  have t4 : (g3.push { cls := .type "tuple", data := .seq #[.int i tk, x] }).get? g.objs.size = some { cls := .type "tuple", data := .seq #[.int i tk, x] } := by rw [← sz]; exact Heap.get?_push_size _ rfl
  have z4 : (g3.push { cls := .type "tuple", data := .seq #[.int i tk, x] }).objs.size = g.objs.size + 1 := by rw [Heap.size_push, sz]
  have k4 : ∀ b o, b ≠ e → g.get? b = some o → (g3.push { cls := .type "tuple", data := .seq #[.int i tk, x] }).get? b = some o := fun b o n z => Heap.get?_push_of_some _ (b3.extBut b o n (b2.extBut b o n z))
  show wpAny _ _ (Builtin.SmallTypes.ownedTupleIsFree (.ref e) >>= _) _ _ _
  rw [sz]
  generalize g3.push { cls := .type "tuple", data := .seq #[.int i tk, x] } = g4 at e4 t4 z4 k4 ⊢
  refine wpAny_bind ?_
  unfold Builtin.SmallTypes.ownedTupleIsFree
  refine wpAny_bind (wpAny_field e4 rfl (x := .none) rfl (wpAny_pure ?_))
  simp only [if_true]
  refine wpAny_bind (wpAny_rule ?_)
  refine wpAny_bind (wpAny_field e4 rfl (x := old) rfl ?_)
  refine wpAny_bind (wpAny_setField_rec e4 (by simp) fun g5 e5 b5 => ?_)
  replace e5 : IsEnum g5 e it (i + 1) x := e5
  replace b5 : Heap.SameBut e g4 g5 := b5
  show wpAny _ _ (Builtin.SmallTypes.ownedTupleHandOut (.ref e) (.ref g.objs.size) >>= _) _ _ _
  refine wpAny_bind ?_
  unfold Builtin.SmallTypes.ownedTupleHandOut
  refine wpAny_bind (wpAny_setField_rec e5 (by simp) fun g6 e6 b6 => ?_)
  replace e6 : IsEnumOut g6 e it (i + 1) x g.objs.size := e6
  replace b6 : Heap.SameBut e g5 g6 := b6
  refine wpAny_setField_rec e6 (by simp) fun g7 e7 b7 => ?_
  replace e7 : IsEnumOut g7 e it (i + 1) x g.objs.size := e7
  replace b7 : Heap.SameBut e g6 g7 := b7
  refine wpAny_bind (wpAny_letGo (wpAny_pure ⟨_, rfl, q g7 e7 ?_ ?_ ?_⟩))
  · exact b7.extBut _ _ (Nat.ne_of_gt le) (b6.extBut _ _ (Nat.ne_of_gt le) (b5.extBut _ _ (Nat.ne_of_gt le) t4))
  · rw [b7.1, b6.1, b5.1, z4]
  · exact fun b o n z => b7.extBut b o n (b6.extBut b o n (b5.extBut b o n (k4 b o n z)))
theorem pe_item {e it : Addr} {i : Int} {old : Value} {Q : Option Value → Shared → Prop} (he : IsEnum s.heap e it i old)
    (hin : wpAny (model prog w) A.in1 (Builtin.SmallTypes.nextOf (.ref it)) (fun x s1 => ∃ g, s1 = { s with heap := g } ∧ IsEnum g e it i old ∧
      ∀ g2, IsEnumOut g2 e it (i + 1) x g.objs.size → g2.get? g.objs.size = some { cls := .type "tuple", data := .seq #[.int i s.toks, x] } → g2.objs.size = g.objs.size + 1 → (∀ b o, b ≠ e → g.get? b = some o → g2.get? b = some o) → Q (some (.ref g.objs.size)) { s with heap := g2, toks := s.toks + 1 })
      (fun _ _ => False) s) : wpAny (model prog w) A (pyNext (.ref e)) Q E s := by
  have ty : s.TypeIs (.ref e) "enumerate" := ⟨_, he, rfl⟩
  unfold pyNext
  exact wpAny_bind (wpAny_attempt (wpAny_callSpecial?_slot (name := Str.ofString "__next__") ty F.slot_enumerate_next
    (wpAny_call_entry F.slot_enumerate_next ty F.entry_enumerate_next (wpAny_mono (en_item he hin) (fun fin s' ⟨v, e1, q⟩ => ⟨v, e1, wpAny_pure q⟩) fun _ _ z => z.elim) (F.args_enumerate_next_1 _))))
theorem pe_end {e it : Addr} {i : Int} {old : Value} {Q : Option Value → Shared → Prop} (he : IsEnum s.heap e it i old)
    (hin : wpAny (model prog w) A.in1 (Builtin.SmallTypes.nextOf (.ref it)) (fun _ _ => False) (fun x s1 => ∃ y g, x = .ref y ∧ s1 = { s with heap := g } ∧ (∃ o, g.get? y = some o ∧ o.cls = .type "StopIteration") ∧ Q none { s with heap := g }) s) : wpAny (model prog w) A (pyNext (.ref e)) Q E s := by
  have ty : s.TypeIs (.ref e) "enumerate" := ⟨_, he, rfl⟩
  unfold pyNext
  refine wpAny_bind (wpAny_attempt (wpAny_callSpecial?_slot (name := Str.ofString "__next__") ty F.slot_enumerate_next
    (wpAny_call_entry F.slot_enumerate_next ty F.entry_enumerate_next ?_ (F.args_enumerate_next_1 _))))
  show wpAny _ _ (field (.ref e) 2 >>= _) _ _ _
  refine wpAny_bind (wpAny_field he rfl (x := .ref it) rfl ?_)
  refine wpAny_bind (wpAny_mono hin (fun _ _ z => z.elim) fun x s1 ⟨y, g, e1, e2, ⟨o, ho, hc⟩, q⟩ => ?_)
  subst e1 e2
  exact wpAny_bind (wpAny_isInstance (T := "StopIteration") (b := true) ⟨o, ho, hc⟩ isSubtype_stop (wpAny_pure q))
/-! a zip whose tuple may be out, alive or not -/
abbrev IsZf (b : Bool) (h : Heap) (z TI TO : Addr) (f0 : Value) (f1 : Bool) : Prop := h.get? z = some { cls := .type "zip", dict := none, data := .fields #[f0, .bool f1, .bool b, .ref TI, .ref TO], slots := #[] }
theorem dead_at {T : Addr} {Q : Option Obj → Shared → Prop} (h : s.heap.get? T = none) (q : Q none s) : wpAny (model prog w) A (loadIfAlive T) Q E s := by
  have q2 : Q (s.heap.get? T) s := by rw [h]; exact q
  exact fun _ _ _ => q2
theorem zf_item {b q1 q2 f1 : Bool} {f0 : Value} {z TI TO i1 i2 l1 l2 : Addr} {k1 k2 : Nat} {xs ys : Array Value} {x y a c : Value} {Q : Value → Shared → Prop} (D : ZipApart z TI TO i1 i2 l1 l2) (hz : IsZf b s.heap z TI TO f0 f1) (hfr : ∀ {P : Bool → Shared → Prop} {E2 : Value → Shared → Prop}, P true s → wpAny (model prog w) A (Builtin.SmallTypes.ownedTupleIsFree (.ref z)) P E2 s) (pI : IsPair s.heap TI (.ref i1) (.ref i2)) (pO : IsPair s.heap TO a c)
    (S1 : SI q1 s.heap i1 l1 k1 xs) (S2 : SI q2 s.heap i2 l2 k2 ys) (hx : xs[k1]? = some x) (hy : ys[k2]? = some y)
    (hQ : ∀ h', IsZf b h' z TI TO (rawInt s.heap.objs.size) false → IsPair h' TO x y → SI q1 h' i1 l1 (k1 + 1) xs → SI q2 h' i2 l2 (k2 + 1) ys → IsPair h' s.heap.objs.size x y → h'.objs.size = s.heap.objs.size + 1 →
      (∀ m o, m ≠ z → m ≠ TO → m ≠ i1 → m ≠ i2 → s.heap.get? m = some o → h'.get? m = some o) → Q (.ref s.heap.objs.size) { s with heap := h' }) :
    wpAny (model prog w) A (Builtin.«zip.__next__» ⟨[.ref z], []⟩) (fun fin s' => ∃ v, fin = .done (.ret v) ∧ Q v s') E s := by
  show wpAny (model prog w) A (field (.ref z) 2 >>= _) _ _ _
  refine wpAny_bind (wpAny_field hz rfl (x := .bool b) rfl ?_)
  show wpAny (model prog w) A (field (.ref z) 3 >>= _) _ _ _
  refine wpAny_bind (wpAny_field hz rfl (x := .ref TI) rfl (wpAny_bind (wpAny_seqItems pI rfl ?_)))
  show wpAny (model prog w) A (Builtin.SmallTypes.ownedTupleIsFree (.ref z) >>= _) _ _ _
  refine wpAny_bind (hfr ?_)
  simp only [if_true]
  refine wpAny_bind (wpAny_rule (wpAny_bind (wpAny_field hz rfl (x := .ref TO) rfl ?_)))
  refine wpAny_bind (wpAny_setField_rec hz (by simp) fun g1 zz1 b1 => ?_)
  replace zz1 : IsZf b g1 z TI TO .ellipsis f1 := zz1
  refine wpAny_bind ?_
  simp only [List.zipIdx_cons, List.zipIdx_nil, List.forIn_cons, List.forIn_nil]
  refine wpAny_bind (wpAny_bind (wpAny_onRaise ?_))
  show wpAny (model prog w) A (zd b (.ref i1)) _ _ _
  refine zd_item (S1.ext b1.extBut D.i1z D.l1z) D.l1i1 hx fun g2 T1 b2 => ?_
  have pO2 : IsPair g2 TO a c := b2.extBut _ _ D.TOi1 (b1.extBut _ _ D.TOz pO)
  refine wpAny_bind (wpAny_seqItems pO2 rfl (wpAny_bind (wpAny_updateSeq_pair pO2 fun g3 pO3 b3 => ?_)))
  replace pO3 : IsPair g3 TO x c := pO3
  refine wpAny_bind (wpAny_letGo (wpAny_pure ?_))
  refine wpAny_bind (wpAny_bind (wpAny_onRaise ?_))
  show wpAny (model prog w) A (zd b (.ref i2)) _ _ _
  refine zd_item (((S2.ext b1.extBut D.i2z D.l2z).ext b2.extBut D.i12.symm D.l2i1).ext b3.extBut D.TOi2.symm D.l2TO) D.l2i2 hy fun g4 T2 b4 => ?_
  have pO4 : IsPair g4 TO x c := b4.extBut _ _ D.TOi2 pO3
  refine wpAny_bind (wpAny_seqItems pO4 rfl (wpAny_bind (wpAny_updateSeq_pair pO4 fun g5 pO5 b5 => ?_)))
  replace pO5 : IsPair g5 TO x y := pO5
  refine wpAny_bind (wpAny_letGo (wpAny_pure (wpAny_pure ?_)))
  refine wpAny_bind (wpAny_seqItems pO5 rfl (wpAny_bind (wpAny_newTuple ?_)))
  have sz5 : g5.objs.size = s.heap.objs.size := by rw [b5.1, b4.1, b3.1, b2.1, b1.1]
  have zz5 : IsZf b g5 z TI TO .ellipsis f1 := b5.extBut _ _ D.TOz.symm (b4.extBut _ _ D.i2z.symm (b3.extBut _ _ D.TOz.symm (b2.extBut _ _ D.i1z.symm zz1)))
  have keep5 : ∀ m o, m ≠ z → m ≠ TO → m ≠ i1 → m ≠ i2 → s.heap.get? m = some o → g5.get? m = some o := fun m o n1 n2 n3 n4 e => b5.extBut _ _ n2 (b4.extBut _ _ n4 (b3.extBut _ _ n2 (b2.extBut _ _ n3 (b1.extBut _ _ n1 e))))
  have T1' : SI q1 g5 i1 l1 (k1 + 1) xs := ((T1.ext b3.extBut D.TOi1.symm D.l1TO).ext b4.extBut D.i12 D.l1i2).ext b5.extBut D.TOi1.symm D.l1TO
  have T2' : SI q2 g5 i2 l2 (k2 + 1) ys := T2.ext b5.extBut D.TOi2.symm D.l2TO
  have zlt : z < g5.objs.size := Heap.lt_size zz5
  show wpAny (model prog w) A (Builtin.SmallTypes.ownedTupleHandOut (.ref z) (.ref g5.objs.size) >>= _) _ _ _
  refine wpAny_bind ?_
  unfold Builtin.SmallTypes.ownedTupleHandOut
  have zz6 : IsZf b (g5.push { cls := .type "tuple", data := .seq #[x, y] }) z TI TO .ellipsis f1 := Heap.get?_push_of_some _ zz5
  refine wpAny_bind (wpAny_setField_rec zz6 (by simp) fun g7 zz7 b7 => ?_)
  replace zz7 : IsZf b g7 z TI TO (rawInt g5.objs.size) f1 := zz7
  refine wpAny_setField_rec zz7 (by simp) fun g8 zz8 b8 => ?_
  replace zz8 : IsZf b g8 z TI TO (rawInt g5.objs.size) false := zz8
  have up : ∀ m o, m ≠ z → g5.get? m = some o → g8.get? m = some o := fun m o n1 e => b8.extBut _ _ n1 (b7.extBut _ _ n1 (Heap.get?_push_of_some _ e))
  have new8 : IsPair g8 g5.objs.size x y := b8.extBut _ _ (Nat.ne_of_gt zlt) (b7.extBut _ _ (Nat.ne_of_gt zlt) (Heap.get?_push_size _ rfl))
  have sz8 : g8.objs.size = g5.objs.size + 1 := by rw [b8.1, b7.1, Heap.size_push]
  rw [sz5] at zz8 new8 sz8
  refine wpAny_pure ⟨_, rfl, ?_⟩
  show Q (.ref g5.objs.size) _
  rw [sz5]
  exact hQ g8 zz8 (up _ _ D.TOz pO5) (T1'.kept (fun o e => up _ o D.i1z e) fun o e => up _ o D.l1z e) (T2'.kept (fun o e => up _ o D.i2z e) fun o e => up _ o D.l2z e) new8 sz8 fun m o n1 n2 n3 n4 e => up m o n1 (keep5 m o n1 n2 n3 n4 e)
theorem zf_end {b q1 q2 f1 : Bool} {f0 : Value} {z TI TO i1 i2 l1 l2 : Addr} {k1 k2 : Nat} {xs ys : Array Value} {a c : Value} {Q : Fin → Shared → Prop} (hh : A.handled = none) (D : ZipApart z TI TO i1 i2 l1 l2) (hz : IsZf b s.heap z TI TO f0 f1) (hfr : ∀ {P : Bool → Shared → Prop} {E2 : Value → Shared → Prop}, P true s → wpAny (model prog w) A (Builtin.SmallTypes.ownedTupleIsFree (.ref z)) P E2 s) (pI : IsPair s.heap TI (.ref i1) (.ref i2)) (pO : IsPair s.heap TO a c)
    (S1 : SI q1 s.heap i1 l1 k1 xs) (S2 : SI q2 s.heap i2 l2 k2 ys) (hend : xs[k1]? = none ∨ ys[k2]? = none) (hst : b = true → xs[k1]? = none ∧ ys[k2]? = none)
    (hE : ∀ h' e, (∀ m o, m ≠ z → m ≠ TO → m ≠ i1 → m ≠ i2 → s.heap.get? m = some o → h'.get? m = some o) → (∃ o, h'.get? e = some o ∧ o.cls = .type "StopIteration") → E (.ref e) { s with heap := h' }) :
    wpAny (model prog w) A (Builtin.«zip.__next__» ⟨[.ref z], []⟩) Q E s := by
  show wpAny (model prog w) A (field (.ref z) 2 >>= _) _ _ _
  refine wpAny_bind (wpAny_field hz rfl (x := .bool b) rfl ?_)
  show wpAny (model prog w) A (field (.ref z) 3 >>= _) _ _ _
  refine wpAny_bind (wpAny_field hz rfl (x := .ref TI) rfl (wpAny_bind (wpAny_seqItems pI rfl ?_)))
  show wpAny (model prog w) A (Builtin.SmallTypes.ownedTupleIsFree (.ref z) >>= _) _ _ _
  refine wpAny_bind (hfr ?_)
  simp only [if_true]
  refine wpAny_bind (wpAny_rule (wpAny_bind (wpAny_field hz rfl (x := .ref TO) rfl ?_)))
  refine wpAny_bind (wpAny_setField_rec hz (by simp) fun g1 zz1 b1 => ?_)
  replace zz1 : IsZf b g1 z TI TO .ellipsis f1 := zz1
  refine wpAny_bind ?_
  simp only [List.zipIdx_cons, List.zipIdx_nil, List.forIn_cons, List.forIn_nil]
  refine wpAny_bind (wpAny_bind (wpAny_onRaise ?_))
  show wpAny (model prog w) A (zd b (.ref i1)) _ _ _
  cases b with
  | true =>
    obtain ⟨e1, e2⟩ := hst rfl
    refine se_end hh (S1.ext b1.extBut D.i1z D.l1z) e1 fun g2 b2 => ?_
    have zz2 : IsZf true g2 z TI TO .ellipsis f1 := b2 _ _ D.i1z.symm zz1
    refine wpAny_bind (wpAny_setField_rec zz2 (by simp) fun g3 zz3 b3 => ?_)
    refine wpAny_bind ?_
    show wpAny (model prog w) A (forIn [(Value.ref i2, 1)] _ _ >>= _) _ _ _
    simp only [List.forIn_cons, List.forIn_nil]
    refine wpAny_bind (wpAny_bind (wpAny_bind ?_))
    refine se_end hh (((S2.ext b1.extBut D.i2z D.l2z).ext b2 D.i12.symm D.l2i1).ext b3.extBut D.i2z D.l2z) e2 fun g4 b4 => ?_
    refine wpAny_pure (wpAny_pure (wpAny_bind (wpAny_rule (stop_up hh fun g5 e b5 he => ?_))))
    exact hE g5 e (fun m o n1 _ n3 n4 q => b5 _ _ (b4 _ _ n4 (b3.extBut _ _ n1 (b2 _ _ n3 (b1.extBut _ _ n1 q))))) he
  | false =>
    cases hx : xs[k1]? with
    | none =>
      refine wpAny_bind (si_end hh (S1.ext b1.extBut D.i1z D.l1z) hx fun g2 e b2 he => ?_)
      obtain ⟨oe, hoe, hce⟩ := he
      have zz2 : IsZf false g2 z TI TO .ellipsis f1 := b2 _ _ D.i1z.symm zz1
      have ne : e ≠ z := fun q => by subst q; rw [zz2] at hoe; cases hoe; simp at hce
      exact wpAny_setField_rec zz2 (by simp) fun g3 _ b3 => hE g3 e (fun m o n1 _ n3 _ q => b3.extBut _ _ n1 (b2 _ _ n3 (b1.extBut _ _ n1 q))) ⟨oe, b3.extBut _ _ ne hoe, hce⟩
    | some x =>
      have hy : ys[k2]? = none := hend.resolve_left (by rw [hx]; simp)
      refine wpAny_bind (si_item (S1.ext b1.extBut D.i1z D.l1z) D.l1i1 hx fun g2 T1 b2 => wpAny_pure ?_)
      have pO2 : IsPair g2 TO a c := b2.extBut _ _ D.TOi1 (b1.extBut _ _ D.TOz pO)
      refine wpAny_bind (wpAny_seqItems pO2 rfl (wpAny_bind (wpAny_updateSeq_pair pO2 fun g3 pO3 b3 => ?_)))
      refine wpAny_bind (wpAny_letGo (wpAny_pure ?_))
      refine wpAny_bind (wpAny_bind (wpAny_onRaise ?_))
      show wpAny (model prog w) A (zd false (.ref i2)) _ _ _
      refine wpAny_bind (si_end hh (((S2.ext b1.extBut D.i2z D.l2z).ext b2.extBut D.i12.symm D.l2i1).ext b3.extBut D.TOi2.symm D.l2TO) hy fun g4 e b4 he => ?_)
      obtain ⟨oe, hoe, hce⟩ := he
      have zz4 : IsZf false g4 z TI TO .ellipsis f1 := b4 _ _ D.i2z.symm (b3.extBut _ _ D.TOz.symm (b2.extBut _ _ D.i1z.symm zz1))
      have ne : e ≠ z := fun q => by subst q; rw [zz4] at hoe; cases hoe; simp at hce
      exact wpAny_setField_rec zz4 (by simp) fun g5 _ b5 => hE g5 e (fun m o n1 n2 n3 n4 q => b5.extBut _ _ n1 (b4 _ _ n4 (b3.extBut _ _ n2 (b2.extBut _ _ n3 (b1.extBut _ _ n1 q))))) ⟨oe, b5.extBut _ _ ne hoe, hce⟩
/-- on its way -/
structure ZX (b : Bool) (h : Heap) (z TI TO i1 i2 : Addr) : Prop where
  is : ∃ f0 f1, IsZf b h z TI TO f0 f1 ∧ (f0 = .none ∨ ∃ T : Addr, f0 = rawInt T)
  pI : IsPair h TI (.ref i1) (.ref i2)
  pO : ∃ x y, IsPair h TO x y
theorem fr_none {b f1 : Bool} {z TI TO : Addr} (hz : IsZf b s.heap z TI TO .none f1) {P : Bool → Shared → Prop} {E2 : Value → Shared → Prop} (q : P true s) : wpAny (model prog w) A (Builtin.SmallTypes.ownedTupleIsFree (.ref z)) P E2 s := by
  unfold Builtin.SmallTypes.ownedTupleIsFree
  exact wpAny_bind (wpAny_field hz rfl (x := .none) rfl (wpAny_pure q))
theorem fr_dead {b f1 : Bool} {z TI TO T : Addr} (hz : IsZf b s.heap z TI TO (rawInt T) f1) (hT : s.heap.get? T = none) {P : Bool → Shared → Prop} {E2 : Value → Shared → Prop} (q : P true s) : wpAny (model prog w) A (Builtin.SmallTypes.ownedTupleIsFree (.ref z)) P E2 s := by
  unfold Builtin.SmallTypes.ownedTupleIsFree
  refine wpAny_bind (wpAny_field hz rfl (x := rawInt T) rfl ?_)
  show wpAny (model prog w) A (loadIfAlive ((T : Int).toNat) >>= _) P E2 s
  rw [Int.toNat_natCast]
  refine wpAny_bind (dead_at hT ?_)
  simp only [Option.isNone_none, if_true]
  exact wpAny_pure q
/-- the inner zip's step -/
theorem nz_item {b q1 q2 : Bool} {z TI TO i1 i2 l1 l2 : Addr} {k : Nat} {xs ys : Array Value} {x y : Value} {Q : Value → Shared → Prop} (D : ZipApart z TI TO i1 i2 l1 l2) (hz : ZX b s.heap z TI TO i1 i2)
    (S1 : SI q1 s.heap i1 l1 k xs) (S2 : SI q2 s.heap i2 l2 k ys) (hx : xs[k]? = some x) (hy : ys[k]? = some y)
    (hQ : ∀ h', ZX b h' z TI TO i1 i2 → SI q1 h' i1 l1 (k + 1) xs → SI q2 h' i2 l2 (k + 1) ys → IsPair h' s.heap.objs.size x y → h'.objs.size = s.heap.objs.size + 1 →
      (∀ m o, m ≠ z → m ≠ TO → m ≠ i1 → m ≠ i2 → s.heap.get? m = some o → h'.get? m = some o) → Q (.ref s.heap.objs.size) { s with heap := h' }) : wpAny (model prog w) A (Builtin.SmallTypes.nextOf (.ref z)) Q E s := by
  have pI := hz.pI
  obtain ⟨f0, f1, hz0, hf⟩ := hz.is
  obtain ⟨x0, y0, pO⟩ := hz.pO
  have ty : s.TypeIs (.ref z) "zip" := ⟨_, hz0, rfl⟩
  have free : (∀ {A : Around} {P : Bool → Shared → Prop} {E2 : Value → Shared → Prop}, P true s → wpAny (model prog w) A (Builtin.SmallTypes.ownedTupleIsFree (.ref z)) P E2 s) → wpAny (model prog w) A (Builtin.SmallTypes.nextOf (.ref z)) Q E s := fun fr => by
    unfold Builtin.SmallTypes.nextOf
    refine wpAny_bind (wpAny_callSpecial?_slot (name := Str.ofString "__next__") ty F.slot_zip_next (wpAny_call_entry F.slot_zip_next ty F.entry_zip_next (zf_item D hz0 fr pI pO S1 S2 hx hy fun h' z' pO' S1' S2' hT hsz hk => wpAny_pure ?_) (F.args_zip_next_1 _)))
    exact hQ h' ⟨⟨_, _, z', .inr ⟨_, rfl⟩⟩, hk _ _ D.TIz D.TITO D.TIi1 D.TIi2 pI, _, _, pO'⟩ S1' S2' hT hsz hk
  rcases hf with rfl | ⟨T, rfl⟩
  · exact free fun q => fr_none hz0 q
  · cases hT : s.heap.get? T with
    | none => exact free fun q => fr_dead hz0 hT q
    | some o =>
      unfold Builtin.SmallTypes.nextOf
      refine wpAny_bind (wpAny_callSpecial?_slot (name := Str.ofString "__next__") ty F.slot_zip_next (wpAny_call_entry F.slot_zip_next ty F.entry_zip_next (zh_item D hz0 hT pI S1 S2 hx hy fun h' z' S1' S2' hN hsz hk => wpAny_pure ?_) (F.args_zip_next_1 _)))
      exact hQ h' ⟨⟨_, _, z', .inr ⟨_, rfl⟩⟩, hk _ _ D.TIz D.TIi1 D.TIi2 pI, _, _, hk _ _ D.TOz D.TOi1 D.TOi2 pO⟩ S1' S2' hN hsz fun m o a1 _ a3 a4 e => hk m o a1 a3 a4 e
theorem nz_end {b q1 q2 : Bool} {z TI TO i1 i2 l1 l2 : Addr} {k : Nat} {xs ys : Array Value} {Q : Value → Shared → Prop} (hh : A.handled = none) (D : ZipApart z TI TO i1 i2 l1 l2) (hz : ZX b s.heap z TI TO i1 i2)
    (S1 : SI q1 s.heap i1 l1 k xs) (S2 : SI q2 s.heap i2 l2 k ys) (hend : xs[k]? = none ∨ ys[k]? = none) (hst : b = true → xs[k]? = none ∧ ys[k]? = none)
    (hE : ∀ h' e, (∀ m o, m ≠ z → m ≠ TO → m ≠ i1 → m ≠ i2 → s.heap.get? m = some o → h'.get? m = some o) → (∃ o, h'.get? e = some o ∧ o.cls = .type "StopIteration") → E (.ref e) { s with heap := h' }) : wpAny (model prog w) A (Builtin.SmallTypes.nextOf (.ref z)) Q E s := by
  have pI := hz.pI
  obtain ⟨f0, f1, hz0, hf⟩ := hz.is
  obtain ⟨x0, y0, pO⟩ := hz.pO
  have ty : s.TypeIs (.ref z) "zip" := ⟨_, hz0, rfl⟩
  have hh1 : A.in1.handled = none := hh
  have free : (∀ {A : Around} {P : Bool → Shared → Prop} {E2 : Value → Shared → Prop}, P true s → wpAny (model prog w) A (Builtin.SmallTypes.ownedTupleIsFree (.ref z)) P E2 s) → wpAny (model prog w) A (Builtin.SmallTypes.nextOf (.ref z)) Q E s := fun fr => by
    unfold Builtin.SmallTypes.nextOf
    exact wpAny_bind (wpAny_callSpecial?_slot (name := Str.ofString "__next__") ty F.slot_zip_next (wpAny_call_entry F.slot_zip_next ty F.entry_zip_next (zf_end hh D hz0 fr pI pO S1 S2 hend hst hE) (F.args_zip_next_1 _)))
  rcases hf with rfl | ⟨T, rfl⟩
  · exact free fun q => fr_none hz0 q
  · cases hT : s.heap.get? T with
    | none => exact free fun q => fr_dead hz0 hT q
    | some o =>
      unfold Builtin.SmallTypes.nextOf
      exact wpAny_bind (wpAny_callSpecial?_slot (name := Str.ofString "__next__") ty F.slot_zip_next (wpAny_call_entry F.slot_zip_next ty F.entry_zip_next (zh_end hh D hz0 hT pI S1 S2 hend hst fun h' e hk he => hE h' e (fun m o a1 _ a3 a4 q => hk m o a1 a3 a4 q) he) (F.args_zip_next_1 _)))
end
end Ev
end
section
set_option maxRecDepth 10000
set_option maxHeartbeats 2000000
/-! enumerate: its turns -/
namespace Ev
open PySem PySem.Spec PyProof.Rows L2
def ItE (K : PySem.W.Frag) (q : Bool) (a : Addr) : L2.It :=
  ⟨fun i H => ∃ (xs : List V) (x : V), SqK K H q a xs ∧ xs[i]? = some x,
    fun i H v H' => ∃ T x, v = .ref T ∧ H T = none ∧ H' = upd H T (.tup [.int (i : Nat), x]) ∧ ∀ xs, SqK K H q a xs → xs[i]? = some x,
    fun i H => ∃ xs : List V, SqK K H q a xs ∧ xs.length ≤ i⟩
theorem turn_enuK {P : Program} {w : World} {K : PySem.W.Frag} {elts : List Expr} {kk : Nat} {tpos : Pos} {q : Bool} {a e it : Addr} (hne : e ≠ it) (hai : a ≠ it) :
    Turn P w K (.Tuple elts kk tpos) (ItE K q a) [e, it] e (fun i h => (∃ old, IsEnum h e it ((i : Nat) : Int) old) ∧ itK q h it a i) where
  mem := by simp
  obj := fun i h st b hb => by
    obtain ⟨⟨old, he⟩, hi⟩ := st
    have z : b = e ∨ b = it := by simpa using hb
    rcases z with rfl | rfl
    · exact ⟨_, he, fun v q => nomatch q⟩
    · exact hi.obj
  keep := fun i h h2 st k => by
    obtain ⟨⟨old, he⟩, hi⟩ := st
    exact ⟨⟨old, k e (by simp) _ he⟩, hi.at fun o z => k it (by simp) o z⟩
  item := by
    intro X hP hw hK hc i pins s σ H E I hf st hg
    subst hP hw hK
    obtain ⟨⟨old, he⟩, hi⟩ := st
    obtain ⟨xs, x, hq, hx⟩ := hg
    obtain ⟨its, rv, la, o1⟩ := sqk_obj I hq
    obtain ⟨u, hu, ru⟩ := rv.get hx
    have le : e < s.heap.objs.size := Heap.lt_size he
    have li : it < s.heap.objs.size := by obtain ⟨_, z, _⟩ := hi.obj; exact Heap.lt_size z
    refine pe_item he (si_item (o1 _ _ hi) hai (x := u) (by simpa using hu) fun g S1 sb => ⟨g, rfl, (sb.2 e hne).trans he, fun g2 out hT hsz hk => ?_⟩)
    have gs : g.objs.size = s.heap.objs.size := sb.1
    rw [gs] at out hT hsz ⊢
    refine ⟨_, rfl, wpAny_letOwnedTupleGo_enum (s := { s with heap := g2, toks := s.toks + 1 }) out fun h2 he2 sb2 => ?_⟩
    have hT2 : h2.get? s.heap.objs.size = some { cls := .type "tuple", data := .seq #[.int i s.toks, u] } := (sb2.2 _ (Nat.ne_of_gt le)).trans hT
    have new : ObjOk X.prog X.w (upd H s.heap.objs.size (.tup [.int (i : Nat), x])) h2 s.heap.objs.size (.tup [.int (i : Nat), x]) :=
      ⟨by show 2 ≤ sizeLine; decide, [.int i s.toks, u], .cons ⟨_, rfl⟩ (.cons ru .nil), ⟨_, hT2, rfl, _, rfl⟩⟩
    have I1 : Inv X pins σ (upd H s.heap.objs.size (.tup [.int (i : Nat), x])) { s with heap := h2, toks := s.toks + 1 } :=
      I.turnedNew (ch := [e, it]) (fun b ob hb z => (sb2.2 b (fun r => hb (by simp [r]))).trans (hk b ob (fun r => hb (by simp [r])) ((sb.2 b (fun r => hb (by simp [r]))).trans z))) hf (Nat.le_refl _) new
    refine ⟨.ref s.heap.objs.size, _, I1, rfl, ⟨_, x, rfl, I.hok.fresh (Nat.le_refl _), rfl, fun ys hy => by rw [sqk_inj I hy hq]; exact hx⟩, ⟨⟨u, ?_⟩, ?_⟩, fun b hb => ?_⟩
    · have e1 : ((i + 1 : Nat) : Int) = (i : Int) + 1 := by omega
      rw [e1]; exact he2
    · exact S1.it.at fun o z => (sb2.2 it (Ne.symm hne)).trans (hk it o (Ne.symm hne) z)
    · have lt : b < s.heap.objs.size := by
        have z : b = e ∨ b = it := by simpa using hb
        rcases z with rfl | rfl
        · exact le
        · exact li
      rw [upd_ne (Nat.ne_of_lt lt)]
      exact (hf b hb).1
  done := by
    intro X hP hw hK hc i pins s σ H E I hf st hg
    subst hP hw hK
    obtain ⟨⟨old, he⟩, hi⟩ := st
    obtain ⟨xs, hq, hx⟩ := hg
    obtain ⟨its, rv, la, o1⟩ := sqk_obj I hq
    obtain ⟨f0, f1, f2, f3, f4, f5⟩ := hf it (by simp)
    have hl := rv.length
    exact pe_end he (si_end (show (X.A.in1).handled = none from I.ok.hd hc) (o1 _ _ hi) (by simp; omega) fun h2 y eb hy => ⟨y, h2, rfl, rfl, hy, ⟨rfl, I.turned (t' := s.toks) (fun b o hb z => eb b o hb z) f0 f1 f3 f4 f5⟩⟩)
  self := fun A i s Q E st h => let ⟨⟨_, he⟩, _⟩ := st; wpAny_pyIter_enum he h
/-- of a zip -/
def ItEZ (K : PySem.W.Frag) (b q1 q2 : Bool) (a c : Addr) : L2.It :=
  ⟨fun i H => ∃ (xs ys : List V) (x y : V), SqK K H q1 a xs ∧ SqK K H q2 c ys ∧ xs[i]? = some x ∧ ys[i]? = some y,
    fun i H v H' => ∃ T T2 x y, v = .ref T ∧ H T2 = none ∧ (upd H T2 (.tup [x, y])) T = none ∧ H' = upd (upd H T2 (.tup [x, y])) T (.tup [.int (i : Nat), .ref T2]) ∧ (∀ xs, SqK K H q1 a xs → xs[i]? = some x) ∧ ∀ ys, SqK K H q2 c ys → ys[i]? = some y,
    fun i H => ∃ xs ys : List V, SqK K H q1 a xs ∧ SqK K H q2 c ys ∧ (xs.length ≤ i ∨ ys.length ≤ i) ∧ (b = true → xs.length ≤ i ∧ ys.length ≤ i)⟩
theorem turn_enuZ {P : Program} {w : World} {K : PySem.W.Frag} {elts : List Expr} {kk : Nat} {tpos : Pos} {b q1 q2 : Bool} {a c e z TI TO i1 i2 : Addr} (D : ZipApart z TI TO i1 i2 a c) (n1 : e ≠ z) (n2 : e ≠ TI) (n3 : e ≠ TO) (n4 : e ≠ i1) (n5 : e ≠ i2) :
    Turn P w K (.Tuple elts kk tpos) (ItEZ K b q1 q2 a c) [e, z, TI, TO, i1, i2] e (fun i h => (∃ old, IsEnum h e z ((i : Nat) : Int) old) ∧ ZX b h z TI TO i1 i2 ∧ itK q1 h i1 a i ∧ itK q2 h i2 c i) where
  mem := by simp
  obj := fun i h st m hm => by
    obtain ⟨⟨old, he⟩, ⟨⟨f0, f1, hz, _⟩, pI, x, y, pO⟩, s1, s2⟩ := st
    have z' : m = e ∨ m = z ∨ m = TI ∨ m = TO ∨ m = i1 ∨ m = i2 := by simpa using hm
    rcases z' with rfl | rfl | rfl | rfl | rfl | rfl
    · exact ⟨_, he, fun v q => nomatch q⟩
    · exact ⟨_, hz, fun v q => nomatch q⟩
    · exact ⟨_, pI, fun v q => nomatch q⟩
    · exact ⟨_, pO, fun v q => nomatch q⟩
    · exact s1.obj
    · exact s2.obj
  keep := fun i h h2 st k => by
    obtain ⟨⟨old, he⟩, ⟨⟨f0, f1, hz, hf⟩, pI, x, y, pO⟩, s1, s2⟩ := st
    exact ⟨⟨old, k e (by simp) _ he⟩, ⟨⟨f0, f1, k z (by simp) _ hz, hf⟩, k TI (by simp) _ pI, x, y, k TO (by simp) _ pO⟩, s1.at fun o q => k i1 (by simp) o q, s2.at fun o q => k i2 (by simp) o q⟩
  item := by
    intro X hP hw hK hc i pins s σ H E I hf st hg
    subst hP hw hK
    obtain ⟨⟨old, he⟩, hz, s1, s2⟩ := st
    obtain ⟨xs, ys, x, y, hqx, hqy, hx, hy⟩ := hg
    obtain ⟨its, rv, la, o1⟩ := sqk_obj I hqx
    obtain ⟨its2, rv2, lc, o2⟩ := sqk_obj I hqy
    obtain ⟨u, hu, ru⟩ := rv.get hx
    obtain ⟨u2, hu2, ru2⟩ := rv2.get hy
    have le : e < s.heap.objs.size := Heap.lt_size he
    refine pe_item he (nz_item D hz (o1 _ _ s1) (o2 _ _ s2) (x := u) (y := u2) (by simpa using hu) (by simpa using hu2) fun g hz1 S1 S2 hT hsz hk => ⟨g, rfl, hk _ _ n1 n3 n4 n5 he, fun g2 out hT2 hsz2 hk2 => ?_⟩)
    rw [hsz] at out hT2 hsz2 ⊢
    refine ⟨_, rfl, wpAny_letOwnedTupleGo_enum (s := { s with heap := g2, toks := s.toks + 1 }) out fun h2 he2 sb2 => ?_⟩
    have nT : s.heap.objs.size ≠ e := Nat.ne_of_gt le
    have nT2 : s.heap.objs.size + 1 ≠ e := Nat.ne_of_gt (Nat.lt_succ_of_lt le)
    have p1 : h2.get? s.heap.objs.size = some { cls := .type "tuple", data := .seq #[u, u2] } := (sb2.2 _ nT).trans (hk2 _ _ nT hT)
    have p2 : h2.get? (s.heap.objs.size + 1) = some { cls := .type "tuple", data := .seq #[.int i s.toks, .ref s.heap.objs.size] } := (sb2.2 _ nT2).trans hT2
    have q1' : g.get? s.heap.objs.size = some { cls := .type "tuple", data := .seq #[u, u2] } := hT
    have new : ObjOk X.prog X.w (upd H s.heap.objs.size (.tup [x, y])) g s.heap.objs.size (.tup [x, y]) := ⟨by show 2 ≤ sizeLine; decide, [u, u2], .cons ru (.cons ru2 .nil), ⟨_, q1', rfl, _, rfl⟩⟩
    have I1 : Inv X pins σ (upd H s.heap.objs.size (.tup [x, y])) { s with heap := g } := I.turnedNew (t' := s.toks) (ch := [z, TI, TO, i1, i2]) (fun m o hb q => hk m o (fun r => hb (by simp [r])) (fun r => hb (by simp [r])) (fun r => hb (by simp [r])) (fun r => hb (by simp [r])) q) (fun m hm => hf m (List.mem_cons_of_mem _ hm)) (Nat.le_refl _) new
    have fe : FpOk X pins (upd H s.heap.objs.size (.tup [x, y])) e := ⟨by rw [upd_ne (Nat.ne_of_lt le)]; exact (hf e (by simp)).1, (hf e (by simp)).2⟩
    have f2 : (upd H s.heap.objs.size (.tup [x, y])) (s.heap.objs.size + 1) = none := by rw [upd_ne (Nat.succ_ne_self _)]; exact I.hok.fresh (Nat.le_succ _)
    have new2 : ObjOk X.prog X.w (upd (upd H s.heap.objs.size (.tup [x, y])) (s.heap.objs.size + 1) (.tup [.int (i : Nat), .ref s.heap.objs.size])) h2 (s.heap.objs.size + 1) (.tup [.int (i : Nat), .ref s.heap.objs.size]) :=
      ⟨by show 2 ≤ sizeLine; decide, [.int i s.toks, .ref s.heap.objs.size], .cons ⟨_, rfl⟩ (.cons rfl .nil), ⟨_, p2, rfl, _, rfl⟩⟩
    have I2 : Inv X pins σ (upd (upd H s.heap.objs.size (.tup [x, y])) (s.heap.objs.size + 1) (.tup [.int (i : Nat), .ref s.heap.objs.size])) { s with heap := h2, toks := s.toks + 1 } :=
      I1.turnedNew (t' := s.toks + 1) (ch := [e]) (fun m o hb q => (sb2.2 m (fun r => hb (by simp [r]))).trans (hk2 m o (fun r => hb (by simp [r])) q)) (fun m hm => by rw [List.mem_singleton.mp hm]; exact fe) (show g.objs.size ≤ s.heap.objs.size + 1 by rw [hsz]; exact Nat.le_refl _) new2
    obtain ⟨⟨f0, f1, hz2, hz3⟩, pI, x2, y2, pO⟩ := hz1
    have go : ∀ m o, m ≠ e → g.get? m = some o → h2.get? m = some o := fun m o ne q => (sb2.2 m ne).trans (hk2 m o ne q)
    refine ⟨.ref (s.heap.objs.size + 1), _, I2, rfl, ⟨_, s.heap.objs.size, x, y, rfl, I.hok.fresh (Nat.le_refl _), f2, rfl, fun l hl => by rw [sqk_inj I hl hqx]; exact hx, fun l hl => by rw [sqk_inj I hl hqy]; exact hy⟩,
      ⟨⟨.ref s.heap.objs.size, ?_⟩, ⟨⟨f0, f1, go _ _ n1.symm hz2, hz3⟩, go _ _ n2.symm pI, x2, y2, go _ _ n3.symm pO⟩, S1.it.at fun o q => go _ o n4.symm q, S2.it.at fun o q => go _ o n5.symm q⟩, fun m hm => ?_⟩
    · have e1 : ((i + 1 : Nat) : Int) = (i : Int) + 1 := by omega
      rw [e1]; exact he2
    · have lt : m < s.heap.objs.size := by
        obtain ⟨⟨_, _, hz0, _⟩, pI0, _, _, pO0⟩ := hz
        have z' : m = e ∨ m = z ∨ m = TI ∨ m = TO ∨ m = i1 ∨ m = i2 := by simpa using hm
        rcases z' with rfl | rfl | rfl | rfl | rfl | rfl
        · exact le
        · exact Heap.lt_size hz0
        · exact Heap.lt_size pI0
        · exact Heap.lt_size pO0
        · obtain ⟨_, e1, _⟩ := s1.obj; exact Heap.lt_size e1
        · obtain ⟨_, e2, _⟩ := s2.obj; exact Heap.lt_size e2
      rw [upd_ne (Nat.ne_of_lt (Nat.lt_succ_of_lt lt)), upd_ne (Nat.ne_of_lt lt)]
      exact (hf m hm).1
  done := by
    intro X hP hw hK hc i pins s σ H E I hf st hg
    subst hP hw hK
    obtain ⟨⟨old, he⟩, hz, s1, s2⟩ := st
    obtain ⟨xs, ys, hqx, hqy, hend, hst⟩ := hg
    obtain ⟨its, rv, la, o1⟩ := sqk_obj I hqx
    obtain ⟨its2, rv2, lc, o2⟩ := sqk_obj I hqy
    have m1 := rv.length
    have m2 := rv2.length
    have g1 : xs.length ≤ i → its.toArray[i]? = none := fun q => by simp; omega
    have g2 : ys.length ≤ i → its2.toArray[i]? = none := fun q => by simp; omega
    exact pe_end he (nz_end (show (X.A.in1).handled = none from I.ok.hd hc) D hz (o1 _ _ s1) (o2 _ _ s2) (hend.imp g1 g2) (fun q => ⟨g1 (hst q).1, g2 (hst q).2⟩) fun h2 y hk hy => ⟨y, h2, rfl, rfl, hy, ⟨rfl, I.turnedL (t' := s.toks) (ch := [e, z, TI, TO, i1, i2]) (fun m o hb q =>
      hk m o (fun r => hb (by simp [r])) (fun r => hb (by simp [r])) (fun r => hb (by simp [r])) (fun r => hb (by simp [r])) q) hf⟩⟩)
  self := fun A i s Q E st h => let ⟨⟨_, he⟩, _⟩ := st; wpAny_pyIter_enum he h
end Ev
end
section
set_option maxRecDepth 10000
namespace Ev
open PySem PySem.Spec PyProof.Rows L2
section
variable {cs : List D} {cl : Nat → List Vl → Sto → Res Vl} {kk : Nat} {k : Ck} {X : Cx} {W : WX} {xa : Option (Addr × Addr × Addr)}
/-! ### targets -/
def tGd (K : Ky) (g : G) : TG := fun v σ H Q => ∃ ρ F st env x env', SR K H ρ F st ∧ ER K H F ρ σ env ∧ RV K H F ρ v x ∧ setG g x env = some env' ∧
  ∀ σ' H', Nx ρ H ρ H' → SR K H' ρ F st → ER K H' F ρ σ' env' → (∀ own, gIn own g = true → wipe σ' own = wipe σ own) → Q σ' H'
def tGds (K : Ky) (g : Gs) : TGs := fun vs σ H Q => ∃ ρ F st env xs env', SR K H ρ F st ∧ ER K H F ρ σ env ∧ RpA K H (ρ ++ F) vs xs ∧ setGs g xs env = some env' ∧
  ∀ σ' H', Nx ρ H ρ H' → SR K H' ρ F st → ER K H' F ρ σ' env' → (∀ own, gsIn own g = true → wipe σ' own = wipe σ own) → Q σ' H'
theorem wipe_set {i : Nat} {v : Option V} : ∀ (own : List Nat) (σ : L2.St), i ∈ own → wipe (σ.set i v) own = wipe σ own
  | [], _, h => nomatch h
  | j :: r, σ, h => by
    unfold wipe
    rcases List.mem_cons.mp h with e | h
    · subst e
      have key : ∀ (r : List Nat) (σ : L2.St), (wipe (σ.set i v) r).set i none = (wipe σ r).set i none := by
        intro r
        induction r with
        | nil => intro σ; show (σ.set i v).set i none = σ.set i none; rw [List.set_set]
        | cons a t ih =>
          intro σ
          show ((wipe (σ.set i v) t).set a none).set i none = ((wipe σ t).set a none).set i none
          by_cases e : a = i
          · subst e; rw [List.set_set, List.set_set]; exact ih σ
          · rw [List.set_comm _ _ e, List.set_comm _ _ e, ih σ]
      exact key r σ
    · rw [wipe_set r σ h]
theorem assignAll1 : ∀ {gs : Gs} {es : List Expr} (h : ckGs k gs es = true) (env : Env), (assignEach es env).length = glen gs ∧ (assignEach es env).findIdx? (·.1) = none ∧ (∀ g r e t, gs = .cons g r → es = e :: t → (assignEach (e :: t) env).map (·.2) = assign e env :: (assignEach t env).map (·.2))
  | .nil, [], _, env => ⟨rfl, rfl, fun _ _ _ _ z => by cases z⟩
  | .nil, _ :: _, h, _ => by simp [ckGs] at h
  | .cons _ _, [], h, _ => by simp [ckGs] at h
  | .cons g r, e :: t, h, env => by
    simp only [ckGs, Bool.and_eq_true] at h
    obtain ⟨h1, h2⟩ := h
    have q : assignEach (e :: t) env = (false, assign e env) :: assignEach t env := by
      cases e <;> first | rfl | (cases g <;> (simp [ckG] at h1; done))
    obtain ⟨i1, i2, _⟩ := assignAll1 h2 env
    refine ⟨by rw [q]; simp [glen, i1], by rw [q]; simp [List.findIdx?_cons, i2], fun g' r' e' t' z1 z2 => ?_⟩
    cases z2
    rw [q]
    rfl
theorem assignAllS : ∀ {gs : Gs} {i : Nat} {es : List Expr} (h : ckGsS k gs i es = true) (env : Env), (assignEach es env).length = glen gs ∧ (assignEach es env).findIdx? (·.1) = some i
  | .nil, _, _, h, _ => by simp [ckGsS] at h
  | .cons _ _, _, [], h, _ => by simp [ckGsS] at h
  | .cons g r, 0, e :: t, h, env => by
    simp only [ckGsS] at h
    split at h
    · rename_i e' p
      rw [Bool.and_eq_true] at h
      obtain ⟨i1, i2, _⟩ := assignAll1 h.2 env
      have q : assignEach (.Starred e' p :: t) env = (true, assign e' env) :: assignEach t env := rfl
      exact ⟨by rw [q]; simp [glen, i1], by rw [q]; simp [List.findIdx?_cons]⟩
    · cases h
  | .cons g r, i + 1, e :: t, h, env => by
    simp only [ckGsS, Bool.and_eq_true] at h
    obtain ⟨h1, h2⟩ := h
    have q : assignEach (e :: t) env = (false, assign e env) :: assignEach t env := by
      cases e <;> first | rfl | (cases g <;> (simp [ckG] at h1; done))
    obtain ⟨i1, i2⟩ := assignAllS h2 env
    exact ⟨by rw [q]; simp [glen, i1], by rw [q]; simp [List.findIdx?_cons, i2]⟩
theorem gs_cons {K : Ky} {g : G} {r : Gs} (vs : List V) (σ : L2.St) (H : Hp) (Q : L2.St → Hp → Prop) (h : tGds K (.cons g r) vs σ H Q) : gCons (tGd K g) (tGds K r) vs σ H Q := by
  obtain ⟨ρ, F, st, env, xs, env', s, er, rr, e1, q⟩ := h
  cases xs with
  | nil => unfold setGs at e1; cases e1
  | cons x xs =>
    cases rr with
    | cons r1 r2 =>
      unfold setGs at e1
      obtain ⟨env1, e2, e3⟩ := Option.bind_eq_some_iff.mp e1
      refine ⟨_, _, rfl, ρ, F, st, env, .d x, env1, s, er, r1, e2, fun σ1 H1 n1 s1 er1 hw1 => ?_⟩
      refine ⟨ρ, F, st, env1, xs, env', s1, er1, r2.mono n1, e3, fun σ2 H2 n2 s2 er2 hw2 => q σ2 H2 (n1.trans n2) s2 er2 fun own ho => ?_⟩
      simp only [gsIn, Bool.and_eq_true] at ho
      rw [hw2 own ho.2, hw1 own ho.1]
mutual
theorem sndG (gd : Gd cs cl kk k X W xa) : ∀ (g : G) {e : Expr}, ckG k g e = true → PG X e (tGd (ky X xa) g)
  | .var i, e, h => by
    unfold ckG at h
    split at h
    · simp only [Bool.and_eq_true, decide_eq_true_eq] at h
      obtain ⟨l1, l2⟩ := gd.loc h.2
      refine PG.weak (pg_name gd.nd (by rw [gd.hN]; exact h.1) l1 l2) ?_
      rintro v σ H Q ⟨ρ, F, st, env, x, env', s, er, r, e1, q⟩
      unfold setG at e1
      cases e1
      exact q _ H s.refl s (er.set r i) fun own ho => wipe_set own σ (by simpa [gIn] using ho)
    · cases h
  | .tup gs, e, h => by
    unfold ckG at h
    split at h
    · rename_i es k2 pos
      simp only [Bool.and_eq_true, Bool.not_eq_true'] at h
      obtain ⟨h0, h⟩ := h
      obtain ⟨a1, a2, _⟩ := assignAll1 h X.env
      have P1 := pg_tup (pos := pos) (k := k2) (gd.calm h0) (sndGs gd gs h) a1 a2
      have P2 := pg_unl (pos := pos) (k := k2) (gd.calm h0) (sndGs gd gs h) a1 a2
      refine ⟨fun pins s0 σ H v u Q I ru w => ?_⟩
      obtain ⟨ρ, F, st, env, x, env', s, er, r, e1, q⟩ := w
      cases x with
      | r n => simp [setG] at e1
      | x _ _ => simp [setG] at e1
      | d dx =>
        cases dx <;> first | (simp [setG] at e1; done) | skip
        · rename_i xs
          have e2 : setGs gs xs env = some env' := by simpa [setG] using e1
          obtain ⟨a, vs, rfl, sq, rr⟩ := Rp.ro r
          exact P2.run pins s0 σ H _ u Q I ru ⟨a, vs, rfl, sq.sq, by rw [rr.length]; exact setGs_len gs e2, ρ, F, st, env, xs, env', s, er, rr, e2, fun σ' H' n' s' er' hw => q σ' H' n' s' er' fun own ho => hw own (by simpa [gIn] using ho)⟩
        · rename_i xs
          have e2 : setGs gs xs env = some env' := by simpa [setG] using e1
          obtain ⟨a, vs, rfl, sq, rr⟩ := Rp.ro r
          exact P1.run pins s0 σ H _ u Q I ru ⟨a, vs, rfl, sq, by rw [rr.length]; exact setGs_len gs e2, ρ, F, st, env, xs, env', s, er, rr, e2, fun σ' H' n' s' er' hw => q σ' H' n' s' er' fun own ho => hw own (by simpa [gIn] using ho)⟩
    · cases h
  | .tupS i gs, e, h => by
    unfold ckG at h
    split at h
    · rename_i es k2 pos
      simp only [Bool.and_eq_true, Bool.not_eq_true'] at h
      obtain ⟨h0, h⟩ := h
      obtain ⟨a1, a2⟩ := assignAllS h X.env
      refine PG.weak (pg_tupS (gd.calm h0) (sndGsS gd gs i h) a1 a2) ?_
      rintro v σ H Q ⟨ρ, F, st, env, x, env', s, er, r, e1, q⟩
      obtain ⟨xs, rfl, hi, e2⟩ : ∃ xs, x = .d (.tuple xs) ∧ (i < glen gs ∧ glen gs ≤ xs.length + 1) ∧ setGs gs (packD i (glen gs) xs) env = some env' := by
        cases x with
        | r n => simp [setG] at e1
        | x _ _ => simp [setG] at e1
        | d dx => cases dx <;> first
          | (simp [setG] at e1; done)
          | (rename_i xs
             unfold setG at e1
             split at e1
             · exact ⟨_, rfl, by assumption, e1⟩
             · cases e1)
      obtain ⟨a, vs, rfl, sq, rr⟩ := Rp.ro r
      have hl := rr.length
      refine ⟨a, vs, rfl, sq, hi.1, by rw [hl]; exact hi.2, fun p hp => ?_⟩
      have rm := (rr.drop i).take (vs.length + 1 - glen gs)
      have n1 := s.nxNew (o := .lst ((vs.drop i).take (vs.length + 1 - glen gs))) hp
      have s1 := s.new (o := .lst ((vs.drop i).take (vs.length + 1 - glen gs))) hp
      have pn : p ∉ ρ ++ F := fun z => by
        rcases List.mem_append.mp z with z | z
        · exact s.fresh hp z
        · obtain ⟨o, ho⟩ := s.liveF p z
          rw [hp] at ho; cases ho
      have rl : Rp X.K (upd H p (.lst ((vs.drop i).take (vs.length + 1 - glen gs)))) (ρ ++ F) (.ref p) (.list ((xs.drop i).take (xs.length + 1 - glen gs))) := by
        refine .lst (.inl ⟨.inl upd_same, pn⟩) ?_
        have := RpA.mono n1 rm
        rw [hl] at this ⊢
        exact this
      have r1 := RpA.mono n1 (rr.take i)
      have r3 := RpA.mono n1 ((rr.drop i).drop (vs.length + 1 - glen gs))
      refine ⟨ρ, F, st, env, packD i (glen gs) xs, env', s1, er.mono n1, ?_, e2, fun σ' H' n' s' er' hw => q σ' H' (n1.trans n') s' er' fun own ho => hw own (by simpa [gIn] using ho)⟩
      unfold packD packV
      rw [hl] at r1 r3 rl ⊢
      exact RpA.append (RpA.append r1 (.cons rl .nil)) r3
    · cases h
theorem sndGs (gd : Gd cs cl kk k X W xa) : ∀ (gs : Gs) {es : List Expr}, ckGs k gs es = true → PGs X es (tGds (ky X xa) gs)
  | .nil, [], _ => by
    refine PGs.weak pgs_nil ?_
    rintro v σ H Q ⟨ρ, F, st, env, xs, env', s, er, r, e1, q⟩
    cases xs with
    | nil =>
      cases r
      unfold setGs at e1
      cases e1
      exact ⟨rfl, q σ H s.refl s er fun _ _ => rfl⟩
    | cons a b => unfold setGs at e1; cases e1
  | .nil, _ :: _, h => by simp [ckGs] at h
  | .cons _ _, [], h => by simp [ckGs] at h
  | .cons g r, e :: t, h => by
    have a3 := (assignAll1 h X.env).2.2
    simp only [ckGs, Bool.and_eq_true] at h
    refine PGs.weak (pgs_cons (sndG gd g h.1) (sndGs gd r h.2) (a3 g r e t rfl rfl)) ?_
    rintro vs σ H Q ⟨ρ, F, st, env, xs, env', s, er, rr, e1, q⟩
    cases xs with
    | nil => unfold setGs at e1; cases e1
    | cons x xs =>
      cases rr with
      | cons r1 r2 =>
        unfold setGs at e1
        obtain ⟨env1, e2, e3⟩ := Option.bind_eq_some_iff.mp e1
        refine ⟨_, _, rfl, ρ, F, st, env, .d x, env1, s, er, r1, e2, fun σ1 H1 n1 s1 er1 hw1 => ?_⟩
        refine ⟨ρ, F, st, env1, xs, env', s1, er1, r2.mono n1, e3, fun σ2 H2 n2 s2 er2 hw2 => q σ2 H2 (n1.trans n2) s2 er2 fun own ho => ?_⟩
        simp only [gsIn, Bool.and_eq_true] at ho
        rw [hw2 own ho.2, hw1 own ho.1]
theorem sndGsS (gd : Gd cs cl kk k X W xa) : ∀ (gs : Gs) (i : Nat) {es : List Expr}, ckGsS k gs i es = true → PGs X es (tGds (ky X xa) gs)
  | .nil, _, _, h => by simp [ckGsS] at h
  | .cons _ _, _, [], h => by simp [ckGsS] at h
  | .cons g r, 0, e :: t, h => by
    simp only [ckGsS] at h
    split at h
    · rename_i e' p
      rw [Bool.and_eq_true] at h
      refine PGs.weak (pgs_star (p := p) (sndG gd g h.1) (sndGs gd r h.2) rfl) ?_
      exact gs_cons
    · cases h
  | .cons g r, i + 1, e :: t, h => by
    simp only [ckGsS, Bool.and_eq_true] at h
    refine PGs.weak (pgs_cons (sndG gd g h.1) (sndGsS gd r i h.2) ?_) ?_
    · have q : assignEach (e :: t) X.env = (false, assign e X.env) :: assignEach t X.env := by
        have h1 := h.1
        cases e <;> first | rfl | (cases g <;> (simp [ckG] at h1; done))
      rw [q]; rfl
    · exact gs_cons
theorem setGs_len : ∀ (gs : Gs) {xs : List D} {env env' : Envr}, setGs gs xs env = some env' → xs.length = glen gs
  | .nil, [], _, _, _ => rfl
  | .nil, _ :: _, _, _, h => by unfold setGs at h; cases h
  | .cons _ _, [], _, _, h => by unfold setGs at h; cases h
  | .cons g r, x :: xs, env, env', h => by
    unfold setGs at h
    obtain ⟨env1, e2, e3⟩ := Option.bind_eq_some_iff.mp h
    simp [glen, setGs_len r e3]
end
mutual
theorem Rp.wide {K : PySem.W.Frag} {H : Hp} {B B' : List Addr} (s : ∀ a ∈ B', a ∈ B ∨ H a = none) : ∀ {v : V} {x : D}, Rp K H B v x → Rp K H B' v x
  | _, _, .non => .non
  | _, _, .bl b => .bl b
  | _, _, .int i => .int i
  | _, _, .str x => .str x
  | _, _, .lst h r => .lst (h.imp_left fun ⟨p, q⟩ => ⟨p, fun z => (s _ z).elim q fun n => by
      rcases p with p | ⟨o, p⟩ <;> (rw [n] at p; cases p)⟩) (RpA.wide s r)
  | _, _, .tup h r => .tup h (RpA.wide s r)
theorem RpA.wide {K : PySem.W.Frag} {H : Hp} {B B' : List Addr} (s : ∀ a ∈ B', a ∈ B ∨ H a = none) : ∀ {vs : List V} {xs : List D}, RpA K H B vs xs → RpA K H B' vs xs
  | _, _, .nil => .nil
  | _, _, .cons h r => .cons (Rp.wide s h) (RpA.wide s r)
end
/-! ### what is walked -/
/-- data that stands still: x by x -/
structure JFix (K : PySem.W.Frag) (F : List Addr) (J : L2.It) (ρ0 : List Addr) (H0 : Hp) (xs : List D) : Prop where
  go : ∀ (ρ : List Addr) (H : Hp) (i : Nat), Nx ρ0 H0 ρ H → i < xs.length → J.go i H
  yld : ∀ (F' ρ : List Addr) (H : Hp) (i : Nat) (x : V) (H' : Hp), (∀ a ∈ F', a ∈ F ∨ H0 a = none) → Nx ρ0 H0 ρ H → J.yld i H x H' → ∀ d, xs[i]? = some d → Nw K ρ F' H x d H'
  stop : ∀ (ρ : List Addr) (H : Hp), Nx ρ0 H0 ρ H → J.stop xs.length H
def JOk (K : PySem.W.Frag) (F : List Addr) (J : L2.It) (ρ : List Addr) (H : Hp) : Src → Prop
  | .fix xs => JFix K F J ρ H xs
  | .obj n len => ∃ a, ρ[n]? = some a ∧ J = Itl K a
def tI (K : Ky) (W : WX) (f : Envr → Sto → Res Src) : TI := fun σ H R => ∃ ρ F st env, SR K H ρ F st ∧ ER K H F ρ σ env ∧ Wn K (fun c d => W c d σ) F (fun H ρ (J : L2.It) src => JOk K F J ρ H src) ρ H (f env st) R
theorem PI.weak {tg it : Expr} {t t' : TI} (h : PI X tg it t) (w : ∀ σ H Q, t' σ H Q → t σ H Q) : PI X tg it t' := ⟨fun pins s σ H Q I q => h.run pins s σ H Q I (w σ H Q q)⟩
theorem jfix_list {K : PySem.W.Frag} {F ρ : List Addr} {H : Hp} {a : Addr} {vs : List V} {xs : List D} (h : (Rd H a (.lst vs) ∧ a ∉ ρ ++ F) ∨ KL K a vs) (r : RpA K H (ρ ++ F) vs xs) : JFix K F (Itl K a) ρ H xs := by
  have still : ∀ (ρ' : List Addr) (H' : Hp), Nx ρ H ρ' H' → SqL K H' a vs := fun ρ' H' n => by
    rcases h with ⟨h, ha⟩ | h
    · rcases h with h | ⟨o, h⟩
      · exact .inl (.inl (n.keep _ _ h fun z => ha (List.mem_append_left _ z)))
      · exact .inl (.inr ⟨o, n.keep _ _ h fun z => ha (List.mem_append_left _ z)⟩)
    · exact h.sq
  refine ⟨fun ρ' H' i n hi => ?_, fun F' ρ' H' i x H2 hF n y d hd => ?_, fun ρ' H' n => ?_⟩
  · obtain ⟨v, q1, q2⟩ := r.get (List.getElem?_eq_getElem hi)
    exact ⟨vs, v, still ρ' H' n, q1⟩
  · obtain ⟨rfl, y⟩ := y
    obtain ⟨d', q1, q2⟩ := r.get' (y vs (still ρ' _ n))
    rw [hd] at q1
    cases q1
    exact New.nw (.old (Rp.mono n (q2.wide fun a ha => (List.mem_append.mp ha).elim (fun z => .inl (List.mem_append_left _ z)) fun z => (hF a z).imp_left (List.mem_append_right _))))
  · exact ⟨vs, still ρ' H' n, by rw [r.length]; exact Nat.le_refl _⟩
theorem jfix_tup {K : PySem.W.Frag} {F ρ : List Addr} {H : Hp} {a : Addr} {vs : List V} {xs : List D} (h : SqT K H a vs) (r : RpA K H (ρ ++ F) vs xs) : JFix K F (Itt K a) ρ H xs := by
  refine ⟨fun ρ' H' i n hi => ?_, fun F' ρ' H' i x H2 hF n y d hd => ?_, fun ρ' H' n => ?_⟩
  · obtain ⟨v, q1, q2⟩ := r.get (List.getElem?_eq_getElem hi)
    exact ⟨vs, v, n.sqT h, q1⟩
  · obtain ⟨rfl, y⟩ := y
    obtain ⟨d', q1, q2⟩ := r.get' (y vs (n.sqT h))
    rw [hd] at q1
    cases q1
    exact New.nw (.old (Rp.mono n (q2.wide fun a ha => (List.mem_append.mp ha).elim (fun z => .inl (List.mem_append_left _ z)) fun z => (hF a z).imp_left (List.mem_append_right _))))
  · exact ⟨vs, n.sqT h, by rw [r.length]; exact Nat.le_refl _⟩
theorem rngs_len (n : Nat) : ∀ lo : Int, (rngs lo n).length = n := by
  induction n with
  | zero => intro lo; rfl
  | succ n ih => intro lo; simp [rngs, ih]
theorem rngs_get (n : Nat) : ∀ (lo : Int) (i : Nat), i < n → (rngs lo n)[i]? = some (.int (lo + i)) := by
  induction n with
  | zero => intro lo i h; omega
  | succ n ih =>
    intro lo i h
    cases i with
    | zero => simp [rngs]
    | succ i =>
      rw [rngs, List.getElem?_cons_succ, ih (lo + 1) i (by omega)]
      congr 2
      push_cast
      omega
theorem jfix_rng {K : PySem.W.Frag} {F ρ : List Addr} {H : Hp} {lo : Int} {n : Nat} : JFix K F (Itr lo n) ρ H (rngs lo n) := by
  refine ⟨fun ρ' H' i nx hi => by rw [rngs_len] at hi; exact hi, fun F' ρ' H' i x H2 hF nx y d hd => ?_, fun ρ' H' nx => by rw [rngs_len]; exact Nat.le_refl _⟩
  obtain ⟨rfl, rfl⟩ := y
  have hi : i < n := by
    have := (List.getElem?_eq_some_iff.mp hd).1
    rwa [rngs_len] at this
  rw [rngs_get n lo i hi] at hd
  cases hd
  exact New.nw (.old (.int _))
theorem rngC_len (n : Nat) : ∀ lo c : Int, (rngC lo c n).length = n := by
  induction n with
  | zero => intro lo c; rfl
  | succ n ih => intro lo c; simp [rngC, ih]
theorem rngC_get (n : Nat) : ∀ (lo c : Int) (i : Nat), i < n → (rngC lo c n)[i]? = some (.int (lo + i * c)) := by
  induction n with
  | zero => intro lo c i h; omega
  | succ n ih =>
    intro lo c i h
    cases i with
    | zero => simp [rngC]
    | succ i =>
      rw [rngC, List.getElem?_cons_succ, ih (lo + c) c i (by omega)]
      congr 2
      push_cast
      grind
theorem jfix_rngC {K : PySem.W.Frag} {F ρ : List Addr} {H : Hp} {lo c : Int} {n : Nat} : JFix K F (Itc lo c n) ρ H (rngC lo c n) := by
  refine ⟨fun ρ' H' i nx hi => by rw [rngC_len] at hi; exact hi, fun F' ρ' H' i x H2 hF nx y d hd => ?_, fun ρ' H' nx => by rw [rngC_len]; exact Nat.le_refl _⟩
  obtain ⟨rfl, rfl⟩ := y
  have hi : i < n := by
    have := (List.getElem?_eq_some_iff.mp hd).1
    rwa [rngC_len] at this
  rw [rngC_get n lo c i hi] at hd
  cases hd
  exact New.nw (.old (.int _))
theorem it_seq {tg l : Expr} {f : Envr → Sto → Res Vl} (h : PE X l (tV (ky X xa) W f)) : PI X tg l (tI (ky X xa) W (fun env st => (f env st).bnd fun v st1 => srcOf v st1)) := by
  refine ⟨fun pins s σ H R I w => ?_⟩
  obtain ⟨ρ, F, st, env, s0, er, w⟩ := w
  -- the value is a list or a tuple
  have key : ∀ (H1 : Hp) (v : V) (R' : L2.It → Hp → Prop), ((∃ a vs, v = .ref a ∧ SqL X.K H1 a vs ∧ R' (Itl X.K a) H1) ∨ ∃ a vs, v = .ref a ∧ SqT X.K H1 a vs ∧ R' (Itt X.K a) H1) →
      ∀ (s1 : Shared) (u : Value), Inv X pins σ H1 s1 → RelV v u → wpAny (model X.prog X.w) X.A (pyIter u) (PIE X pins σ tg R') X.xe s1 := by
    intro H1 v R' hv s1 u I1 ru
    rcases hv with ⟨a, vs, rfl, sq, q⟩ | ⟨a, vs, rfl, sq, q⟩
    · cases ru
      obtain ⟨its, rv, pl, _⟩ := I1.list sq
      refine wpAny_pyIter_list pl.isList ?_
      refine ⟨_, [s1.heap.objs.size], _, _, H1, rfl, I1.kept (t' := s1.toks) fun b o z => Heap.get?_push_of_some _ z, turn_list a _, ⟨_, Heap.get?_push_size _ rfl, rfl, rfl⟩, fun b hb => ?_, q⟩
      rw [List.mem_singleton.mp hb]
      exact I1.fpOk (Nat.le_refl _) I1.fresh
    · cases ru
      obtain ⟨its, rv, pl, _⟩ := I1.tuple sq
      refine wpAny_pyIter_tuple (show s1.heap.IsTuple a its.toArray from pl) ?_
      refine ⟨_, [s1.heap.objs.size], _, _, H1, rfl, I1.kept (t' := s1.toks) fun b o z => Heap.get?_push_of_some _ z, turn_tuple a _, ⟨_, Heap.get?_push_size _ rfl, rfl, rfl⟩, fun b hb => ?_, q⟩
      rw [List.mem_singleton.mp hb]
      exact I1.fpOk (Nat.le_refl _) I1.fresh
  have rdv : tV (ky X xa) W f σ H (fun v H1 => (∃ a vs, v = .ref a ∧ SqL X.K H1 a vs ∧ R (Itl X.K a) H1) ∨ ∃ a vs, v = .ref a ∧ SqT X.K H1 a vs ∧ R (Itt X.K a) H1) := by
    refine ⟨ρ, F, st, env, s0, er, w.bnd fun x st1 e1 w' ρ1 v H1 n1 s1 r1 => ?_⟩
    unfold srcOf at w'
    cases x with
    | d dx =>
      cases dx with
      | list ds =>
        cases r1 with
        | lst h rr => exact .inl ⟨_, _, rfl, h.elim (fun p => .inl p.1) KL.sq, w' ρ1 _ H1 n1 s1 (jfix_list h rr)⟩
      | tuple ds =>
        cases r1 with
        | tup h rr => exact .inr ⟨_, _, rfl, h, w' ρ1 _ H1 n1 s1 (jfix_tup h rr)⟩
      | none => exact w'.elim
      | bool _ => exact w'.elim
      | int _ => exact w'.elim
      | str _ => exact w'.elim
      | dict _ => exact w'.elim
    | x _ _ => exact w'.elim
    | r n =>
      simp only at w'
      cases e2 : st1[n]? with
      | none => rw [e2] at w'; exact w'.elim
      | some ob =>
        rw [e2] at w'
        cases ob with
        | dic _ => exact w'.elim
        | lst ds =>
          obtain ⟨a, ea, rfl⟩ := r1
          obtain ⟨vs, hH, rr⟩ := s1.obj n _ a e2 ea
          exact .inl ⟨a, vs, rfl, .inl (.inl hH), w' ρ1 _ H1 n1 s1 ⟨a, ea, rfl⟩⟩
  refine thn (h.run pins s σ H _ I rdv) fun u s1 z => ?_
  obtain ⟨v, H1, I1, ru, q⟩ := z
  exact key H1 v R q s1 u I1 ru
/-- a sequence that stands still -/
def Still (K : PySem.W.Frag) (H : Hp) (B : List Addr) (q : Bool) (a : Addr) (vs : List V) : Prop := match q with
  | true => (Rd H a (.lst vs) ∧ a ∉ B) ∨ KL K a vs
  | false => SqT K H a vs
theorem Still.here {K : PySem.W.Frag} {H : Hp} {B : List Addr} {q : Bool} {a : Addr} {vs : List V} (h : Still K H B q a vs) : SqK K H q a vs := by
  cases q with
  | true => exact h.elim (fun p => .inl p.1) KL.sq
  | false => exact h
theorem Still.later {K : PySem.W.Frag} {H H' : Hp} {ρ ρ' F : List Addr} {q : Bool} {a : Addr} {vs : List V} (h : Still K H (ρ ++ F) q a vs) (n : Nx ρ H ρ' H') : SqK K H' q a vs := by
  cases q with
  | true =>
    rcases h with ⟨h, ha⟩ | h
    · rcases h with h | ⟨o, h⟩
      · exact .inl (.inl (n.keep _ _ h fun z => ha (List.mem_append_left _ z)))
      · exact .inl (.inr ⟨o, n.keep _ _ h fun z => ha (List.mem_append_left _ z)⟩)
    · exact KL.sq h
  | false => exact n.sqT h
theorem seq_rp {K : PySem.W.Frag} {H : Hp} {B : List Addr} {v : V} {d : D} {xs : List D} (r : Rp K H B v d) (e : seqD d = some xs) : ∃ a q vs, v = .ref a ∧ Still K H B q a vs ∧ RpA K H B vs xs := by
  cases r <;> first | (simp [seqD] at e; done) | skip
  · rename_i a vs ds h rr
    cases e
    exact ⟨a, true, vs, rfl, h, rr⟩
  · rename_i a vs ds h rr
    cases e
    exact ⟨a, false, vs, rfl, h, rr⟩
theorem pairs_get : ∀ {xs ys : List D} {i : Nat} {d : D}, (pairsD xs ys)[i]? = some d → ∃ x y, xs[i]? = some x ∧ ys[i]? = some y ∧ d = .tuple [x, y]
  | [], _, _, _, h => by simp [pairsD] at h
  | _ :: _, [], _, _, h => by simp [pairsD] at h
  | x :: xs, y :: ys, 0, d, h => by simp [pairsD] at h; exact ⟨x, y, rfl, rfl, h.symm⟩
  | x :: xs, y :: ys, i + 1, d, h => by
    obtain ⟨p, q, h1, h2, h3⟩ := pairs_get (xs := xs) (ys := ys) (i := i) (by simpa [pairsD] using h)
    exact ⟨p, q, by simpa using h1, by simpa using h2, h3⟩
theorem pairs_len : ∀ (xs ys : List D), (pairsD xs ys).length = min xs.length ys.length
  | [], _ => by simp [pairsD]
  | _ :: _, [] => by simp [pairsD]
  | x :: xs, y :: ys => by
    rw [pairsD, List.length_cons, pairs_len xs ys, List.length_cons, List.length_cons]
    omega
theorem jfix_zip {K : PySem.W.Frag} {F ρ : List Addr} {H : Hp} {b q1 q2 : Bool} {a c : Addr} {vs us : List V} {xs ys : List D} (t1 : Still K H (ρ ++ F) q1 a vs) (t2 : Still K H (ρ ++ F) q2 c us) (r1 : RpA K H (ρ ++ F) vs xs) (r2 : RpA K H (ρ ++ F) us ys) (hb : b = true → xs.length = ys.length) : JFix K F (ItG K b q1 q2 a c) ρ H (pairsD xs ys) := by
  have n1 := r1.length
  have n2 := r2.length
  refine ⟨fun ρ' H' i n hi => ?_, fun F' ρ' H' i x H2 hF n y d hd => ?_, fun ρ' H' n => ?_⟩
  · obtain ⟨x, y, h1, h2, _⟩ := pairs_get (List.getElem?_eq_getElem hi)
    obtain ⟨v, w1, _⟩ := r1.get h1
    obtain ⟨u, w2, _⟩ := r2.get h2
    exact ⟨vs, us, v, u, t1.later n, t2.later n, w1, w2⟩
  · obtain ⟨x1, y1, h1, h2, rfl⟩ := pairs_get hd
    obtain ⟨T, v, u, rfl, hT, rfl, e1, e2⟩ := y
    obtain ⟨x', p1, p2⟩ := r1.get' (e1 vs (t1.later n))
    obtain ⟨y', p3, p4⟩ := r2.get' (e2 us (t2.later n))
    rw [h1] at p1
    rw [h2] at p3
    cases p1
    cases p3
    have wd : ∀ {v : V} {x : D}, Rp K H (ρ ++ F) v x → Rp K H' (ρ' ++ F') v x := fun r => Rp.mono n (r.wide fun a ha => (List.mem_append.mp ha).elim (fun z => .inl (List.mem_append_left _ z)) fun z => (hF a z).imp_left (List.mem_append_right _))
    exact New.nw (.tup hT (.cons (wd p2) (.cons (wd p4) .nil)))
  · rw [pairs_len]
    refine ⟨vs, us, t1.later n, t2.later n, ?_, fun h => ?_⟩
    · omega
    · have := hb h
      omega
def iZipG (K : PySem.W.Frag) (b : Bool) (ta : TA) : TI := fun σ H R => ta σ H fun vs H1 => ∃ a c q1 q2 xs ys, vs = [.ref a, .ref c] ∧ SqK K H1 q1 a xs ∧ SqK K H1 q2 c ys ∧ R (ItG K b q1 q2 a c) H1
theorem sqk_ob {pins : List (Addr × Obj)} {σ : L2.St} {H : Hp} {s : Shared} {q : Bool} {a : Addr} {xs : List V} (I : Inv X pins σ H s) (h : SqK X.K H q a xs) : ∃ its : Array Value, a < s.heap.objs.size ∧ objK q s.heap a its := by
  cases q with
  | true =>
    obtain ⟨its, rv, p, _⟩ := I.list h
    exact ⟨_, p.lt, p.isList⟩
  | false =>
    obtain ⟨its, rv, p, _⟩ := I.tuple h
    obtain ⟨o, ho, _⟩ := id p
    exact ⟨its.toArray, Heap.lt_size ho, p⟩
theorem cw_typeK {M : Model} {A : Around} {E : Value → Shared → Prop} {s : Shared} {pos : Pos} {T : String} {first : List Value} {args : List (Bool × Sem Value)} {keywords : List (Option Str × Sem Value)} {Q : Value → Shared → Prop} (h1 : args.any (·.1) = false) (h2 : keywords.any (·.1.isNone) = false)
    (h : wpAny M A (evalArgs (.type T) true args keywords) (fun a s1 => wpAny M A (call (.type T) (first ++ a.pos) a.kw) Q E s1) E s) : wpAny M A (callWith pos (.type T) first args keywords) Q E s := by
  unfold callWith
  refine wpAny_bind (wpAny_holding (wpAny_mono h (fun a s1 q => wpAny_bind (wpAny_standAt ?_)) fun _ _ z => z))
  simp only [h1, h2, Bool.or_false]
  exact wpAny_bind (wpAny_pure (wpAny_bind (wpAny_mono q (fun r s2 hr => wpAny_bind (wpAny_holding (wpAny_point (wpAny_pure hr)))) fun _ _ z => z)))
theorem pi_zipG {e e2 : Expr} {ta : TA} {p pos tpos : Pos} {elts : List Expr} {kk : Nat} {b : Bool} {kws : List Keyword} (hg : Gl X "zip") (hm : X.mg "zip" = none) (ha : PA X [e, e2] ta) (n1 : noStar e = true) (n2 : noStar e2 = true) (hk : strictB b kws = true) :
    PI X (.Tuple elts kk tpos) (.Call (.Name "zip" p) [e, e2] kws pos) (iZipG X.K b ta) := by
  have s1 : starEach [e, e2] X.env = (false, eval e X.env) :: starEach [e2] X.env := star1 n1 [e2] X.env
  have s2 : starEach [e2] X.env = (false, eval e2 X.env) :: starEach [] X.env := star1 n2 [] X.env
  have fin : ∀ (pins : List (Addr × Obj)) (σ : L2.St) (R : L2.It → Hp → Prop) (us : List Value) (vs : List V) (H1 : Hp) (s1 : Shared), Inv X pins σ H1 s1 → Vals vs us → (∃ a c q1 q2 xs ys, vs = [.ref a, .ref c] ∧ SqK X.K H1 q1 a xs ∧ SqK X.K H1 q2 c ys ∧ R (ItG X.K b q1 q2 a c) H1) →
      wpAny (model X.prog X.w) X.A (call (.type "zip") us (zkw b)) (fun v s2 => wpAny (model X.prog X.w) X.A (pyIter v) (PIE X pins σ (.Tuple elts kk tpos) R) X.xe s2) X.xe s1 := by
    rintro pins σ R us vs H1 s1 I1 r1 ⟨a, c, q1, q2, xs, ys, rfl, t1, t2, q⟩
    cases r1 with
    | cons r rr =>
      cases rr with
      | cons r' rr =>
        cases rr
        cases r
        cases r'
        obtain ⟨its, la, o1⟩ := sqk_ob I1 t1
        obtain ⟨its2, lc, o2⟩ := sqk_ob I1 t2
        have five : ∀ m, m ∈ [s1.heap.objs.size + 4, s1.heap.objs.size + 2, s1.heap.objs.size + 3, s1.heap.objs.size, s1.heap.objs.size + 1] → FpOk X pins H1 m := fun m hm => by
          have le : s1.heap.objs.size ≤ m := by
            simp only [List.mem_cons, List.not_mem_nil, or_false] at hm
            omega
          exact I1.fpOk le (I1.hok.fresh le)
        refine call_zipK o1 o2 fun h' hz pI pO i1 i2 hk => it_zip hz ?_
        exact ⟨s1.heap.objs.size + 4, [s1.heap.objs.size + 4, s1.heap.objs.size + 2, s1.heap.objs.size + 3, s1.heap.objs.size, s1.heap.objs.size + 1], _, _, H1, rfl, I1.kept (t' := s1.toks) hk, turn_zipG (PySem.W.ktu_apart s1.heap.objs.size a c la lc), ⟨hz, pI, ⟨_, _, pO⟩, i1, i2⟩, five, q⟩
  have np : (backTo pos (starEach [e, e2] X.env)).any (·.1) = false := by rw [s1, s2]; rfl
  unfold strictB at hk
  split at hk
  · have hb : b = false := by simpa using hk
    subst hb
    refine ⟨fun pins s σ H R I h => ?_⟩
    refine Call_ (ld_blt I hg hm PyProof.Rows.boot_zip (PyProof.Rows.callWith_type1 (thn (ha.run pos pins s σ H _ I h) fun us s1 ⟨vs, H1, I1, r1, q1⟩ => fin pins σ R us vs H1 s1 I1 r1 q1) s1 (by rw [s2]; rfl)))
  · rename_i x cpos c2 kpos
    simp only [Bool.and_eq_true, decide_eq_true_eq] at hk
    obtain ⟨rfl, rfl⟩ := hk
    refine ⟨fun pins s σ H R I h => ?_⟩
    refine wpAny_Call_Name_kw (ld_blt I hg hm PyProof.Rows.boot_zip ?_)
    refine cw_typeK np rfl ?_
    have be : backTo pos (starEach [e, e2] X.env) = (false, eval e X.env) :: backTo pos (starEach [e2] X.env) := by rw [s1]; rfl
    rw [be]
    refine evalArgs_kwB rfl ?_
    rw [← be]
    refine thn (ha.run pos pins s σ H _ I h) fun us s1 ⟨vs, H1, I1, r1, q1⟩ => ?_
    refine kws_cons (thn (pe_bl.run pins s1 σ H1 (fun v H2 => v = .bl true ∧ H2 = H1) I1 ⟨rfl, rfl⟩) fun u s2 ⟨v, H2, I2, ru, e1, e2⟩ => kws_nil ?_)
    subst e1 e2
    cases ru
    exact fin pins σ R us vs H2 s2 I2 r1 q1
  · cases hk
theorem jfix_str {K : PySem.W.Frag} {F ρ : List Addr} {H : Hp} {x : Str} : JFix K F (Its x) ρ H (x.cps.toList.map fun c => .str ⟨#[c]⟩) := by
  refine ⟨fun ρ' H' i nx hi => by simpa [Its] using hi, fun F' ρ' H' i v H2 hF nx y d hd => ?_, fun ρ' H' nx => by simp [Its]⟩
  obtain ⟨rfl, c, hc, rfl⟩ := y
  have e : d = .str ⟨#[c]⟩ := by
    rw [List.getElem?_map] at hd
    have e2 : x.cps.toList[i]? = some c := by rw [Array.getElem?_toList]; exact hc
    rw [e2] at hd
    exact (Option.some.inj hd).symm
  subst e
  exact New.nw (.old (.str _))
theorem enum_len : ∀ (n : Nat) (xs : List D), (enumD n xs).length = xs.length
  | _, [] => rfl
  | n, x :: xs => by rw [enumD, List.length_cons, enum_len (n + 1) xs, List.length_cons]
theorem enum_get : ∀ {n : Nat} {xs : List D} {i : Nat} {d : D}, (enumD n xs)[i]? = some d → ∃ x, xs[i]? = some x ∧ d = .tuple [.int ((n + i : Nat) : Int), x]
  | _, [], _, _, h => by simp [enumD] at h
  | n, x :: xs, 0, d, h => by simp [enumD] at h; exact ⟨x, rfl, by rw [← h]; simp⟩
  | n, x :: xs, i + 1, d, h => by
    obtain ⟨y, h1, h2⟩ := enum_get (n := n + 1) (xs := xs) (i := i) (by simpa [enumD] using h)
    exact ⟨y, by simpa using h1, by rw [h2]; congr 4; omega⟩
theorem jfix_enu {K : PySem.W.Frag} {F ρ : List Addr} {H : Hp} {q : Bool} {a : Addr} {vs : List V} {xs : List D} (t : Still K H (ρ ++ F) q a vs) (r : RpA K H (ρ ++ F) vs xs) : JFix K F (ItE K q a) ρ H (enumD 0 xs) := by
  refine ⟨fun ρ' H' i n hi => ?_, fun F' ρ' H' i x H2 hF n y d hd => ?_, fun ρ' H' n => ?_⟩
  · rw [enum_len] at hi
    obtain ⟨v, w1, _⟩ := r.get (List.getElem?_eq_getElem hi)
    exact ⟨vs, v, t.later n, w1⟩
  · obtain ⟨x1, h1, rfl⟩ := enum_get hd
    obtain ⟨T, v, rfl, hT, rfl, e1⟩ := y
    obtain ⟨x', p1, p2⟩ := r.get' (e1 vs (t.later n))
    rw [h1] at p1
    cases p1
    have wd : ∀ {v : V} {x : D}, Rp K H (ρ ++ F) v x → Rp K H' (ρ' ++ F') v x := fun r => Rp.mono n (r.wide fun a ha => (List.mem_append.mp ha).elim (fun z => .inl (List.mem_append_left _ z)) fun z => (hF a z).imp_left (List.mem_append_right _))
    rw [Nat.zero_add]
    exact New.nw (.tup hT (.cons (.int _) (.cons (wd p2) .nil)))
  · rw [enum_len]
    exact ⟨vs, t.later n, by rw [r.length]; exact Nat.le_refl _⟩
theorem jfix_ezip {K : PySem.W.Frag} {F ρ : List Addr} {H : Hp} {b q1 q2 : Bool} {a c : Addr} {vs us : List V} {xs ys : List D} (t1 : Still K H (ρ ++ F) q1 a vs) (t2 : Still K H (ρ ++ F) q2 c us) (r1 : RpA K H (ρ ++ F) vs xs) (r2 : RpA K H (ρ ++ F) us ys) (hb : b = true → xs.length = ys.length) : JFix K F (ItEZ K b q1 q2 a c) ρ H (enumD 0 (pairsD xs ys)) := by
  have n1 := r1.length
  have n2 := r2.length
  refine ⟨fun ρ' H' i n hi => ?_, fun F' ρ' H' i x H2 hF n y d hd => ?_, fun ρ' H' n => ?_⟩
  · rw [enum_len] at hi
    obtain ⟨x, y, h1, h2, _⟩ := pairs_get (List.getElem?_eq_getElem hi)
    obtain ⟨v, w1, _⟩ := r1.get h1
    obtain ⟨u, w2, _⟩ := r2.get h2
    exact ⟨vs, us, v, u, t1.later n, t2.later n, w1, w2⟩
  · obtain ⟨p, h0, rfl⟩ := enum_get hd
    obtain ⟨x1, y1, h1, h2, rfl⟩ := pairs_get h0
    obtain ⟨T, T2, v, u, rfl, hT2, hT, rfl, e1, e2⟩ := y
    obtain ⟨x', p1, p2⟩ := r1.get' (e1 vs (t1.later n))
    obtain ⟨y', p3, p4⟩ := r2.get' (e2 us (t2.later n))
    rw [h1] at p1
    rw [h2] at p3
    cases p1
    cases p3
    have wd : ∀ {v : V} {x : D}, Rp K H (ρ ++ F) v x → Rp K H' (ρ' ++ F') v x := fun r => Rp.mono n (r.wide fun a ha => (List.mem_append.mp ha).elim (fun z => .inl (List.mem_append_left _ z)) fun z => (hF a z).imp_left (List.mem_append_right _))
    rw [Nat.zero_add]
    intro st s
    obtain ⟨m1, s1, g1⟩ := (New.tup (K := K) (B := ρ' ++ F') hT2 (.cons (wd p2) (.cons (wd p4) .nil))).done s
    obtain ⟨m2, s2, g2⟩ := (New.tup (K := K) (B := ρ' ++ F') hT (.cons (.int (i : Nat)) (.cons g1 .nil))).done s1
    exact ⟨m1.trans m2, s2, g2⟩
  · rw [enum_len, pairs_len]
    refine ⟨vs, us, t1.later n, t2.later n, ?_, fun h => ?_⟩
    · omega
    · have := hb h
      omega
def iEnu (K : PySem.W.Frag) (ta : TA) : TI := fun σ H R => ta σ H fun vs H1 => ∃ a q xs, vs = [.ref a] ∧ SqK K H1 q a xs ∧ R (ItE K q a) H1
theorem pi_enu {e : Expr} {ta : TA} {p pos tpos : Pos} {elts : List Expr} {kk : Nat} (hg : Gl X "enumerate") (hm : X.mg "enumerate" = none) (ha : PA X [e] ta) (n1 : noStar e = true) :
    PI X (.Tuple elts kk tpos) (.Call (.Name "enumerate" p) [e] [] pos) (iEnu X.K ta) := by
  have s1 : starEach [e] X.env = (false, eval e X.env) :: starEach [] X.env := star1 n1 [] X.env
  refine ⟨fun pins s σ H R I h => ?_⟩
  refine Call_ (ld_blt I hg hm PyProof.Rows.boot_enumerate (PyProof.Rows.callWith_type1 (thn (ha.run pos pins s σ H _ I h) fun us s1 ⟨vs, H1, I1, r1, q1⟩ => ?_) s1 rfl))
  obtain ⟨a, q, xs, rfl, t, hR⟩ := q1
  obtain ⟨u, rfl, ru⟩ := r1.one
  cases ru
  obtain ⟨its, la, o1⟩ := sqk_ob I1 t
  refine call_enuK o1 fun h' he hi hk => wpAny_pyIter_enum he ?_
  have five : ∀ m, m ∈ [s1.heap.objs.size + 1, s1.heap.objs.size] → FpOk X pins H1 m := fun m hm => by
    have le : s1.heap.objs.size ≤ m := by
      simp only [List.mem_cons, List.not_mem_nil, or_false] at hm
      omega
    exact I1.fpOk le (I1.hok.fresh le)
  exact ⟨s1.heap.objs.size + 1, [s1.heap.objs.size + 1, s1.heap.objs.size], _, _, H1, rfl, I1.kept (t' := s1.toks) hk, turn_enuK (Nat.succ_ne_self _) (Nat.ne_of_lt la), ⟨⟨_, he⟩, hi⟩, five, hR⟩
def iEnz (K : PySem.W.Frag) (b : Bool) (ta : TA) : TI := fun σ H R => ta σ H fun vs H1 => ∃ a c q1 q2 xs ys, vs = [.ref a, .ref c] ∧ SqK K H1 q1 a xs ∧ SqK K H1 q2 c ys ∧ R (ItEZ K b q1 q2 a c) H1
theorem pi_enz {e e2 : Expr} {ta : TA} {p pos p0 pos0 tpos : Pos} {elts : List Expr} {kk : Nat} {b : Bool} {kws : List Keyword} (hg0 : Gl X "enumerate") (hm0 : X.mg "enumerate" = none) (hg : Gl X "zip") (hm : X.mg "zip" = none) (ha : PA X [e, e2] ta) (n1 : noStar e = true) (n2 : noStar e2 = true) (hk : strictB b kws = true) :
    PI X (.Tuple elts kk tpos) (.Call (.Name "enumerate" p0) [.Call (.Name "zip" p) [e, e2] kws pos] [] pos0) (iEnz X.K b ta) := by
  have s1 : starEach [e, e2] X.env = (false, eval e X.env) :: starEach [e2] X.env := star1 n1 [e2] X.env
  have s2 : starEach [e2] X.env = (false, eval e2 X.env) :: starEach [] X.env := star1 n2 [] X.env
  have fin : ∀ (pins : List (Addr × Obj)) (σ : L2.St) (R : L2.It → Hp → Prop) (us : List Value) (vs : List V) (H1 : Hp) (s1 : Shared), Inv X pins σ H1 s1 → Vals vs us → (∃ a c q1 q2 xs ys, vs = [.ref a, .ref c] ∧ SqK X.K H1 q1 a xs ∧ SqK X.K H1 q2 c ys ∧ R (ItEZ X.K b q1 q2 a c) H1) →
      wpAny (model X.prog X.w) X.A (call (.type "zip") us (zkw b)) (fun z s2 => wpAny (model X.prog X.w) X.A (spliced []) (fun ws s3 => wpAny (model X.prog X.w) X.A (call (.type "enumerate") (z :: ws)) (fun v s4 => wpAny (model X.prog X.w) X.A (pyIter v) (PIE X pins σ (.Tuple elts kk tpos) R) X.xe s4) X.xe s3) X.xe s2) X.xe s1 := by
    rintro pins σ R us vs H1 s1 I1 r1 ⟨a, c, q1, q2, xs, ys, rfl, t1, t2, q⟩
    cases r1 with
    | cons r rr =>
      cases rr with
      | cons r' rr =>
        cases rr
        cases r
        cases r'
        obtain ⟨its, la, o1⟩ := sqk_ob I1 t1
        obtain ⟨its2, lc, o2⟩ := sqk_ob I1 t2
        refine call_zipK o1 o2 fun h' hz pI pO i1 i2 hk => Calls.spliced_nil ?_
        refine call_enuZ (s := { s1 with heap := h' }) hz fun h2 he hk2 => wpAny_pyIter_enum he ?_
        have big : s1.heap.objs.size + 4 < h'.objs.size := Heap.lt_size hz
        have D := PySem.W.ktu_apart s1.heap.objs.size a c la lc
        have five : ∀ m, m ∈ [h'.objs.size, s1.heap.objs.size + 4, s1.heap.objs.size + 2, s1.heap.objs.size + 3, s1.heap.objs.size, s1.heap.objs.size + 1] → FpOk X pins H1 m := fun m hm => by
          have le : s1.heap.objs.size ≤ m := by
            simp only [List.mem_cons, List.not_mem_nil, or_false] at hm
            omega
          exact I1.fpOk le (I1.hok.fresh le)
        exact ⟨h'.objs.size, [h'.objs.size, s1.heap.objs.size + 4, s1.heap.objs.size + 2, s1.heap.objs.size + 3, s1.heap.objs.size, s1.heap.objs.size + 1], _, _, H1, rfl, I1.kept (t' := s1.toks) fun m o z => hk2 m o (hk m o z),
          turn_enuZ D (Nat.ne_of_gt (by omega)) (Nat.ne_of_gt (by omega)) (Nat.ne_of_gt (by omega)) (Nat.ne_of_gt (by omega)) (Nat.ne_of_gt (by omega)), ⟨⟨_, he⟩, ⟨⟨_, _, hk2 _ _ hz, .inl rfl⟩, hk2 _ _ pI, _, _, hk2 _ _ pO⟩, i1.at fun o z => hk2 _ o z, i2.at fun o z => hk2 _ o z⟩, five, q⟩
  have np : (backTo pos (starEach [e, e2] X.env)).any (·.1) = false := by rw [s1, s2]; rfl
  unfold strictB at hk
  split at hk
  · have hb : b = false := by simpa using hk
    subst hb
    refine ⟨fun pins s σ H R I h => ?_⟩
    refine Call_ (ld_blt I hg0 hm0 PyProof.Rows.boot_enumerate (PyProof.Rows.callWith_type1 (Calls.spliced_cons ?_) rfl rfl))
    refine Call_ (ld_blt I hg hm PyProof.Rows.boot_zip (PyProof.Rows.callWith_type1 (thn (ha.run pos pins s σ H _ I h) fun us s1 ⟨vs, H1, I1, r1, q1⟩ => fin pins σ R us vs H1 s1 I1 r1 q1) s1 (by rw [s2]; rfl)))
  · rename_i x cpos c2 kpos
    simp only [Bool.and_eq_true, decide_eq_true_eq] at hk
    obtain ⟨rfl, rfl⟩ := hk
    refine ⟨fun pins s σ H R I h => ?_⟩
    refine Call_ (ld_blt I hg0 hm0 PyProof.Rows.boot_enumerate (PyProof.Rows.callWith_type1 (Calls.spliced_cons ?_) rfl rfl))
    refine wpAny_Call_Name_kw (ld_blt I hg hm PyProof.Rows.boot_zip ?_)
    refine cw_typeK np rfl ?_
    have be : backTo pos (starEach [e, e2] X.env) = (false, eval e X.env) :: backTo pos (starEach [e2] X.env) := by rw [s1]; rfl
    rw [be]
    refine evalArgs_kwB rfl ?_
    rw [← be]
    refine thn (ha.run pos pins s σ H _ I h) fun us s1 ⟨vs, H1, I1, r1, q1⟩ => ?_
    refine kws_cons (thn (pe_bl.run pins s1 σ H1 (fun v H2 => v = .bl true ∧ H2 = H1) I1 ⟨rfl, rfl⟩) fun u s2 ⟨v, H2, I2, ru, e1, e2⟩ => kws_nil ?_)
    subst e1 e2
    cases ru
    exact fin pins σ R us vs H2 s2 I2 r1 q1
  · cases hk
def itSubs : It → List E
  | .enu c => [c]
  | .chr c => [c]
  | .ezip a b _ => [a, b]
  | .val c => [c]
  | .rng1 b => [b]
  | .rng2 a b => [a, b]
  | .rng3 a b c => [a, b, c]
  | .zip a b _ => [a, b]
theorem snd_it {tg it : Expr} {i : It} (g : Gd cs cl kk k X W xa) (he : ∀ c, c ∈ itSubs i → ∀ e, ckE k c e = true → Snd X W xa e (evE cs cl c)) (ht : itTg i tg = true) (h : ckIt k i it = true) : PI X tg it (tI (ky X xa) W (evIt cs cl i)) := by
  cases i with
  | zip a b s =>
    simp only [ckIt] at h
    split at h
    · rename_i n p y z kws pos
      simp only [Bool.and_eq_true, decide_eq_true_eq] at h
      obtain ⟨⟨⟨⟨⟨⟨⟨rfl, h2⟩, h3⟩, h4⟩, h5⟩, h6⟩, h7⟩, h8⟩ := h
      obtain ⟨g1, g2, g3⟩ := g.gl h2
      have m := g.blt _ h3
      cases tg <;> first | (simp [itTg] at ht; done) | skip
      rename_i elts tk tpos
      have A := pa_cons (he a (by simp [itSubs]) _ h4).pe (pa_cons (he b (by simp [itSubs]) _ h6).pe pa_nil (star1 h7 _ X.env)) (star1 h5 _ X.env)
      refine PI.weak (pi_zipG (b := s) g1 m A h5 h7 h8) ?_
      rintro σ H Q ⟨ρ, F, st, env, s0, er, w⟩
      simp only [evIt] at w
      refine ⟨ρ, F, st, env, s0, er, w.bnd fun v st1 e1 w ρ1 u H1 n1 s1 r1 => ?_⟩
      refine ⟨ρ1, F, st1, env, s1, er.mono n1, w.bndN n1 fun v2 st2 e2 w ρ2 u2 H2 n2 s2 r2 => ?_⟩
      unfold zipOf at w
      cases v with
      | r n => exact w.elim
      | x _ _ => exact w.elim
      | d dx =>
        cases v2 with
        | r n => exact w.elim
        | x _ _ => exact w.elim
        | d dy =>
          simp only at w
          cases q1 : seqD dx with
          | none => rw [q1] at w; exact w.elim
          | some xs =>
            cases q2 : seqD dy with
            | none => rw [q1, q2] at w; exact w.elim
            | some ys =>
              rw [q1, q2] at w
              simp only at w
              split at w
              · exact w.elim
              · rename_i hl
                obtain ⟨a1, k1, vs1, rfl, t1, p1⟩ := seq_rp (Rp.mono n2 r1) q1
                obtain ⟨a2, k2, vs2, rfl, t2, p2⟩ := seq_rp r2 q2
                exact ⟨a1, a2, k1, k2, vs1, vs2, rfl, t1.here, t2.here, w ρ2 _ H2 (n1.trans n2) s2 (jfix_zip t1 t2 p1 p2 fun hs => Decidable.byContradiction fun z => hl ⟨hs, z⟩)⟩
    · cases h
  | chr c =>
    simp only [ckIt] at h
    refine PI.weak (pi_str (tg := tg) (he c (by simp [itSubs]) _ h).pe) ?_
    rintro σ H Q ⟨ρ, F, st, env, s0, er, w⟩
    simp only [evIt] at w
    refine ⟨ρ, F, st, env, s0, er, w.bnd fun v st1 e1 w ρ1 u H1 n1 s1 r1 => ?_⟩
    unfold chrOf at w
    split at w
    · cases r1
      exact ⟨_, rfl, w ρ1 _ H1 n1 s1 jfix_str⟩
    · exact w.elim
  | enu c =>
    simp only [ckIt] at h
    split at h
    · rename_i n p y pos
      simp only [Bool.and_eq_true, decide_eq_true_eq] at h
      obtain ⟨⟨⟨⟨rfl, h2⟩, h3⟩, h4⟩, h5⟩ := h
      obtain ⟨g1, g2, g3⟩ := g.gl h2
      have m := g.blt _ h3
      cases tg <;> first | (simp [itTg] at ht; done) | skip
      rename_i elts tk tpos
      refine PI.weak (pi_enu g1 m (pa_cons (he c (by simp [itSubs]) _ h4).pe pa_nil (star1 h5 _ X.env)) h5) ?_
      rintro σ H Q ⟨ρ, F, st, env, s, er, w⟩
      simp only [evIt] at w
      refine ⟨ρ, F, st, env, s, er, w.bnd fun v st1 e1 w ρ1 u H1 n1 s1 r1 => ?_⟩
      unfold enuOf at w
      cases v with
      | r n => exact w.elim
      | x _ _ => exact w.elim
      | d dx =>
        simp only at w
        cases q1 : seqD dx with
        | none => rw [q1] at w; exact w.elim
        | some xs =>
          rw [q1] at w
          simp only at w
          obtain ⟨a1, k1, vs1, rfl, t1, p1⟩ := seq_rp r1 q1
          exact ⟨a1, k1, vs1, rfl, t1.here, w ρ1 _ H1 n1 s1 (jfix_enu t1 p1)⟩
    · cases h
  | ezip a b s =>
    simp only [ckIt] at h
    split at h
    · rename_i n p m2 p2 y z kws pos2 pos
      simp only [Bool.and_eq_true, decide_eq_true_eq] at h
      obtain ⟨⟨⟨⟨⟨⟨⟨⟨⟨⟨rfl, h2⟩, h3⟩, rfl⟩, h22⟩, h33⟩, h4⟩, h5⟩, h6⟩, h7⟩, h8⟩ := h
      obtain ⟨g1, g2, g3⟩ := g.gl h2
      have m := g.blt _ h3
      obtain ⟨g4, g5, g6⟩ := g.gl h22
      have m3 := g.blt _ h33
      cases tg <;> first | (simp [itTg] at ht; done) | skip
      rename_i elts tk tpos
      have A := pa_cons (he a (by simp [itSubs]) _ h4).pe (pa_cons (he b (by simp [itSubs]) _ h6).pe pa_nil (star1 h7 _ X.env)) (star1 h5 _ X.env)
      refine PI.weak (pi_enz (b := s) g1 m g4 m3 A h5 h7 h8) ?_
      rintro σ H Q ⟨ρ, F, st, env, s0, er, w⟩
      simp only [evIt] at w
      refine ⟨ρ, F, st, env, s0, er, w.bnd fun v st1 e1 w ρ1 u H1 n1 s1 r1 => ?_⟩
      refine ⟨ρ1, F, st1, env, s1, er.mono n1, w.bndN n1 fun v2 st2 e2 w ρ2 u2 H2 n2 s2 r2 => ?_⟩
      unfold ezipOf at w
      cases v with
      | r n => exact w.elim
      | x _ _ => exact w.elim
      | d dx =>
        cases v2 with
        | r n => exact w.elim
        | x _ _ => exact w.elim
        | d dy =>
          simp only at w
          cases q1 : seqD dx with
          | none => rw [q1] at w; exact w.elim
          | some xs =>
            cases q2 : seqD dy with
            | none => rw [q1, q2] at w; exact w.elim
            | some ys =>
              rw [q1, q2] at w
              simp only at w
              split at w
              · exact w.elim
              · rename_i hl
                obtain ⟨a1, k1, vs1, rfl, t1, p1⟩ := seq_rp (Rp.mono n2 r1) q1
                obtain ⟨a2, k2, vs2, rfl, t2, p2⟩ := seq_rp r2 q2
                exact ⟨a1, a2, k1, k2, vs1, vs2, rfl, t1.here, t2.here, w ρ2 _ H2 (n1.trans n2) s2 (jfix_ezip t1 t2 p1 p2 fun hs => Decidable.byContradiction fun z => hl ⟨hs, z⟩)⟩
    · cases h
  | val c =>
    simp only [ckIt] at h
    refine PI.weak (it_seq (tg := tg) (he c (by simp [itSubs]) _ h).pe) ?_
    rintro σ H Q w
    simpa only [tI, evIt] using w
  | rng1 b =>
    simp only [ckIt] at h
    split at h
    · rename_i n p y pos
      simp only [Bool.and_eq_true, decide_eq_true_eq] at h
      obtain ⟨⟨⟨⟨rfl, h2⟩, h3⟩, h4⟩, h5⟩ := h
      obtain ⟨g1, g2, g3⟩ := g.gl h2
      have m := g.blt _ h3
      refine PI.weak (pi_range1 g1 m (pa_cons (he b (by simp [itSubs]) _ h4).pe pa_nil (star1 h5 _ X.env)) (star1 h5 _ X.env)) ?_
      rintro σ H Q ⟨ρ, F, st, env, s, er, w⟩
      simp only [evIt] at w
      refine ⟨ρ, F, st, env, s, er, w.bnd fun v st1 e1 w ρ1 u H1 n1 s1 r1 => ?_⟩
      unfold rng1D at w
      split at w
      · split at w
        · rename_i hj
          cases r1
          exact ⟨_, rfl, hj.1, hj.2, w ρ1 _ H1 n1 s1 jfix_rng⟩
        · exact w.elim
      · exact w.elim
    · cases h
  | rng2 a b =>
    simp only [ckIt] at h
    split at h
    · rename_i n p y z pos
      simp only [Bool.and_eq_true, decide_eq_true_eq] at h
      obtain ⟨⟨⟨⟨⟨⟨rfl, h2⟩, h3⟩, h4⟩, h5⟩, h6⟩, h7⟩ := h
      obtain ⟨g1, g2, g3⟩ := g.gl h2
      have m := g.blt _ h3
      refine PI.weak (pi_range2 g1 m (pa_cons (he a (by simp [itSubs]) _ h4).pe (pa_cons (he b (by simp [itSubs]) _ h6).pe pa_nil (star1 h7 _ X.env)) (star1 h5 _ X.env)) (by rw [star1 h5, star1 h7]; rfl) (star1 h7 _ X.env)) ?_
      rintro σ H Q ⟨ρ, F, st, env, s, er, w⟩
      simp only [evIt] at w
      refine ⟨ρ, F, st, env, s, er, w.bnd fun v st1 e1 w ρ1 u H1 n1 s1 r1 => ?_⟩
      refine ⟨ρ1, F, st1, env, s1, er.mono n1, w.bndN n1 fun v2 st2 e2 w ρ2 u2 H2 n2 s2 r2 => ?_⟩
      unfold rng2D at w
      split at w
      · split at w
        · rename_i hj
          cases r1
          cases r2
          exact ⟨_, _, rfl, hj, w ρ2 _ H2 (n1.trans n2) s2 jfix_rng⟩
        · exact w.elim
      · exact w.elim
    · cases h
  | rng3 a b c =>
    simp only [ckIt] at h
    split at h
    · rename_i n p y z t pos
      simp only [Bool.and_eq_true, decide_eq_true_eq] at h
      obtain ⟨⟨⟨⟨⟨⟨⟨⟨rfl, h2⟩, h3⟩, h4⟩, h5⟩, h6⟩, h7⟩, h8⟩, h9⟩ := h
      obtain ⟨g1, g2, g3⟩ := g.gl h2
      have m := g.blt _ h3
      refine PI.weak (pi_range3 g1 m (pa_cons (he a (by simp [itSubs]) _ h4).pe (pa_cons (he b (by simp [itSubs]) _ h6).pe (pa_cons (he c (by simp [itSubs]) _ h8).pe pa_nil (star1 h9 _ X.env)) (star1 h7 _ X.env)) (star1 h5 _ X.env)) (star1 h5 _ X.env) (noStars (by simp [h7, h9]) X.env pos)) ?_
      rintro σ H Q ⟨ρ, F, st, env, s, er, w⟩
      simp only [evIt] at w
      refine ⟨ρ, F, st, env, s, er, w.bnd fun v st1 e1 w ρ1 u H1 n1 s1 r1 => ?_⟩
      refine ⟨ρ1, F, st1, env, s1, er.mono n1, w.bndN n1 fun v2 st2 e2 w ρ2 u2 H2 n2 s2 r2 => ?_⟩
      refine ⟨ρ2, F, st2, env, s2, er.mono (n1.trans n2), w.bndN (n1.trans n2) fun v3 st3 e3 w ρ3 u3 H3 n3 s3 r3 => ?_⟩
      unfold rng3D at w
      split at w
      · split at w
        · rename_i hj
          cases r1
          cases r2
          cases r3
          exact ⟨_, _, _, _, rfl, ⟨hj.1, hj.2.1, hj.2.2.1, (Int.toNat_of_nonneg hj.2.2.2).symm⟩, w ρ3 _ H3 (n1.trans (n2.trans n3)) s3 jfix_rngC⟩
        · exact w.elim
      · exact w.elim
    · cases h
end
end Ev
end
section
set_option maxRecDepth 10000
set_option maxHeartbeats 2000000
/-! list(zip(a, b)) as an expression -/
namespace Ev
open PySem PySem.Spec PyProof.Rows L2
def putP : Hp → List Addr → List (V × V) → Hp
  | H, a :: as, p :: ps => putP (upd H a (.tup [p.1, p.2])) as ps
  | H, _, _ => H
theorem putP_off {b : Addr} : ∀ (as : List Addr) (ps : List (V × V)) (H : Hp), b ∉ as → putP H as ps b = H b
  | [], _, _, _ => rfl
  | _ :: _, [], _, _ => rfl
  | a :: as, p :: ps, H, h => (putP_off as ps _ fun z => h (List.mem_cons_of_mem _ z)).trans (upd_ne fun z => h (z ▸ List.mem_cons_self))
theorem putP_at : ∀ (as : List Addr) (ps : List (V × V)) (H : Hp) (j : Nat) (a : Addr) (p : V × V), as.Nodup → as[j]? = some a → ps[j]? = some p → putP H as ps a = some (.tup [p.1, p.2])
  | [], _, _, _, _, _, _, h, _ => by simp at h
  | _ :: _, [], _, _, _, _, _, _, h => by simp at h
  | c :: as, q :: ps, H, 0, a, p, nd, h1, h2 => by
    cases (by simpa using h1 : c = a)
    cases (by simpa using h2 : q = p)
    exact (putP_off as ps _ (List.nodup_cons.mp nd).1).trans upd_same
  | c :: as, q :: ps, H, j + 1, a, p, nd, h1, h2 => putP_at as ps _ j a p (List.nodup_cons.mp nd).2 (by simpa using h1) (by simpa using h2)
section
variable {X : Cx}
theorem pairs_laid {pins : List (Addr × Obj)} {σ : L2.St} {H : Hp} {s : Shared} {h' : Heap} {tk : Nat} {us vs : List V} {xs ys : List Value} {acc : Array Value} {c : Nat} {as : List Addr} {S : Addr} (I : Inv X pins σ H s) (le : s.heap.objs.size ≤ S) (r1 : Vals us xs) (r2 : Vals vs ys) (hz : us.length ≤ sizeLine)
    (hk : ∀ b o, s.heap.get? b = some o → h'.get? b = some o) (hS : h'.get? S = some { cls := .type "list", dict := none, data := .seq acc c, slots := #[] }) (hl : as.length = min xs.length ys.length) (hG : ZGot xs.toArray ys.toArray S h' as) (hacc : acc.toList = as.map Value.ref) :
    ∃ H' : Hp, (∀ b o, H b = some o → H' b = some o) ∧ H S = none ∧ H' S = some (.lst (as.map V.ref)) ∧ (∀ (j : Nat) (u v : V), us[j]? = some u → vs[j]? = some v → ∃ t, as[j]? = some t ∧ H t = none ∧ H' t = some (.tup [u, v])) ∧ Inv X pins σ H' { s with heap := h', toks := tk } := by
  have n1 := r1.length
  have n2 := r2.length
  have nS : S ∉ as := fun z => Nat.lt_irrefl _ (hG.above _ z)
  have nd : as.Nodup := List.Pairwise.imp (fun {a b} (h : a < b) => Nat.ne_of_lt h) hG.rise
  have new : ∀ t ∈ as, H t = none := fun t ht => I.hok.fresh (Nat.le_trans le (Nat.le_of_lt (hG.above t ht)))
  have newS : H S = none := I.hok.fresh le
  have atP : ∀ (j : Nat) (a : Addr), as[j]? = some a → ∃ u v, us[j]? = some u ∧ vs[j]? = some v ∧ putP (upd H S (.lst (as.map V.ref))) as (us.zip vs) a = some (.tup [u, v]) := fun j a ha => by
    have hj : j < as.length := (List.getElem?_eq_some_iff.mp ha).1
    have q1 : j < us.length := by omega
    have q2 : j < vs.length := by omega
    refine ⟨us[j], vs[j], List.getElem?_eq_getElem q1, List.getElem?_eq_getElem q2, putP_at as (us.zip vs) _ j a (us[j], vs[j]) nd ha ?_⟩
    rw [List.getElem?_eq_getElem (by rw [List.length_zip]; omega), List.getElem_zip]
  have off : ∀ b, b ∉ as → b ≠ S → putP (upd H S (.lst (as.map V.ref))) as (us.zip vs) b = H b := fun b h1 h2 => (putP_off as _ _ h1).trans (upd_ne h2)
  have low : ∀ b o, s.heap.get? b = some o → b ∉ as ∧ b ≠ S := fun b o e => ⟨fun z => absurd (Heap.lt_size e) (Nat.not_lt.mpr (Nat.le_trans le (Nat.le_of_lt (hG.above b z)))), Nat.ne_of_lt (Nat.lt_of_lt_of_le (Heap.lt_size e) le)⟩
  have kp : ∀ b u, H b = some u → (putP (upd H S (.lst (as.map V.ref))) as (us.zip vs)) b = some u := fun b u e => (off b (fun z => by rw [new b z] at e; cases e) (fun z => by rw [z, newS] at e; cases e)).trans e
  have eS : putP (upd H S (.lst (as.map V.ref))) as (us.zip vs) S = some (.lst (as.map V.ref)) := (putP_off as _ _ nS).trans upd_same
  refine ⟨putP (upd H S (.lst (as.map V.ref))) as (us.zip vs), kp, newS, eS, fun j u v hu hv => ?_, ?_⟩
  · have hj : j < as.length := by
      have := (List.getElem?_eq_some_iff.mp hu).1
      have := (List.getElem?_eq_some_iff.mp hv).1
      omega
    obtain ⟨u', v', e1, e2, e3⟩ := atP j as[j] (List.getElem?_eq_getElem hj)
    rw [hu] at e1
    rw [hv] at e2
    cases e1
    cases e2
    exact ⟨as[j], List.getElem?_eq_getElem hj, new _ (List.getElem_mem hj), e3⟩
  · refine I.call' (ch := []) rfl ⟨fun b o q _ _ _ => hk b o q, fun b o q _ _ _ => ⟨o.slots, hk b o q⟩, fun b o q n _ => ?_, fun b o q _ => ⟨o, hk b o q⟩, fun b xs q => kp b _ q, fun b o u q => kp b _ q, fun b ps q => ⟨#[], by rw [kp b _ q]; simp⟩⟩ (fun b u q => ?_) I.bare fun b z => by simp at z
    · obtain ⟨z1, z2⟩ := low b o q
      rw [off b z1 z2]
      exact n
    · by_cases hb : b ∈ as
      · obtain ⟨j, hj⟩ := List.mem_iff_getElem?.mp hb
        obtain ⟨u', v', e1, e2, e3⟩ := atP j b hj
        rw [e3] at q
        cases q
        obtain ⟨x, y, f1, f2, f3⟩ := hG.pairs j b hj
        obtain ⟨x', g1, g2⟩ := r1.get e1
        obtain ⟨y', g3, g4⟩ := r2.get e2
        have f1' : xs[j]? = some x := by simpa using f1
        have f2' : ys[j]? = some y := by simpa using f2
        rw [g1] at f1'
        rw [g3] at f2'
        cases f1'
        cases f2'
        exact ⟨by show 2 ≤ sizeLine; decide, [_, _], .cons g2 (.cons g4 .nil), ⟨_, f3, rfl, _, rfl⟩⟩
      · by_cases hb2 : b = S
        · rw [hb2] at q ⊢
          rw [eS] at q
          cases q
          refine ⟨by rw [List.length_map]; omega, acc.toList, c, by rw [hacc]; exact LiI.vals_refs as, ?_⟩
          rw [Array.toArray_toList]
          exact hS
        · rw [off b hb hb2] at q
          exact (I.hok b u q).stay (fun d v _ y => hk d v y) (fun d y => kp d _ y) fun d xs y => kp d _ y
theorem sqk_size {pins : List (Addr × Obj)} {σ : L2.St} {H : Hp} {s : Shared} {q : Bool} {a : Addr} {xs : List V} (I : Inv X pins σ H s) (h : SqK X.K H q a xs) : xs.length ≤ sizeLine := by
  cases q with
  | true => obtain ⟨_, _, _, z⟩ := I.list h; exact z
  | false => obtain ⟨_, _, _, z⟩ := I.tuple h; exact z
theorem sqk_full {pins : List (Addr × Obj)} {σ : L2.St} {H : Hp} {s : Shared} {q : Bool} {a : Addr} {xs : List V} (I : Inv X pins σ H s) (h : SqK X.K H q a xs) : ∃ its : List Value, Vals xs its ∧ a < s.heap.objs.size ∧ objK q s.heap a its.toArray := by
  cases q with
  | true =>
    obtain ⟨its, rv, p, _⟩ := I.list h
    exact ⟨its, rv, p.lt, p.isList⟩
  | false =>
    obtain ⟨its, rv, p, _⟩ := I.tuple h
    obtain ⟨o, ho, _⟩ := id p
    exact ⟨its, rv, Heap.lt_size ho, p⟩
theorem si_of {q : Bool} {h h' : Heap} {it l : Addr} {k : Nat} {vs : Array Value} (i : itK q h' it l k) (o : objK q h l vs) (hk : ∀ m o, h.get? m = some o → h'.get? m = some o) : SI q h' it l k vs := by
  cases q with
  | true =>
    obtain ⟨ob, e, r⟩ := o
    exact ⟨i, ob, hk _ _ e, r⟩
  | false =>
    obtain ⟨ob, e, r⟩ := o
    exact ⟨i, ob, hk _ _ e, r⟩
def tLz (K : PySem.W.Frag) (b : Bool) (ta : TA) : TE := fun σ H Q => ta σ H fun vs H1 => ∃ a c q1 q2 xs ys, vs = [.ref a, .ref c] ∧ SqK K H1 q1 a xs ∧ SqK K H1 q2 c ys ∧ (b = true → xs.length = ys.length) ∧
  ∀ (H' : Hp) (p : Addr) (ts : List Addr), (∀ m o, H1 m = some o → H' m = some o) → H1 p = none → H' p = some (.lst (ts.map V.ref)) → ts.length = min xs.length ys.length →
    (∀ (j : Nat) (u v : V), xs[j]? = some u → ys[j]? = some v → ∃ t, ts[j]? = some t ∧ H1 t = none ∧ H' t = some (.tup [u, v])) → Q (.ref p) H'
theorem ev_zip {e e2 : Expr} {ta : TA} {p pos : Pos} {b : Bool} {kws : List Keyword} (hg : Gl X "zip") (hm : X.mg "zip" = none) (ha : PA X [e, e2] ta) (n1 : noStar e = true) (n2 : noStar e2 = true) (hk : strictB b kws = true)
    {pins : List (Addr × Obj)} {s : Shared} {σ : L2.St} {H : Hp} {R : List V → Hp → Prop} {K : Value → Shared → Prop} (I : Inv X pins σ H s) (h : ta σ H R)
    (fin : ∀ us vs H1 s1, Inv X pins σ H1 s1 → Vals vs us → R vs H1 → wpAny (model X.prog X.w) X.A (call (.type "zip") us (zkw b)) K X.xe s1) :
    wpAny (model X.prog X.w) X.A (eval (.Call (.Name "zip" p) [e, e2] kws pos) X.env) K X.xe s := by
  have s1 : starEach [e, e2] X.env = (false, eval e X.env) :: starEach [e2] X.env := star1 n1 [e2] X.env
  have s2 : starEach [e2] X.env = (false, eval e2 X.env) :: starEach [] X.env := star1 n2 [] X.env
  have np : (backTo pos (starEach [e, e2] X.env)).any (·.1) = false := by rw [s1, s2]; rfl
  unfold strictB at hk
  split at hk
  · have hb : b = false := by simpa using hk
    subst hb
    exact Call_ (ld_blt I hg hm PyProof.Rows.boot_zip (PyProof.Rows.callWith_type1 (thn (ha.run pos pins s σ H _ I h) fun us s1 ⟨vs, H1, I1, r1, q1⟩ => fin us vs H1 s1 I1 r1 q1) s1 (by rw [s2]; rfl)))
  · rename_i x cpos c2 kpos
    simp only [Bool.and_eq_true, decide_eq_true_eq] at hk
    obtain ⟨rfl, rfl⟩ := hk
    refine wpAny_Call_Name_kw (ld_blt I hg hm PyProof.Rows.boot_zip ?_)
    refine cw_typeK np rfl ?_
    have be : backTo pos (starEach [e, e2] X.env) = (false, eval e X.env) :: backTo pos (starEach [e2] X.env) := by rw [s1]; rfl
    rw [be]
    refine evalArgs_kwB rfl ?_
    rw [← be]
    refine thn (ha.run pos pins s σ H _ I h) fun us s1 ⟨vs, H1, I1, r1, q1⟩ => ?_
    refine kws_cons (thn (pe_bl.run pins s1 σ H1 (fun v H2 => v = .bl true ∧ H2 = H1) I1 ⟨rfl, rfl⟩) fun u s2 ⟨v, H2, I2, ru, e1, e2⟩ => kws_nil ?_)
    subst e1 e2
    cases ru
    exact fin us vs H2 s2 I2 r1 q1
  · cases hk
theorem pe_lz {e e2 : Expr} {ta : TA} {p p2 pos pos2 : Pos} {b : Bool} {kws : List Keyword} (hc : X.calm = true) (hgl : Gl X "list") (hml : X.mg "list" = none) (hg : Gl X "zip") (hm : X.mg "zip" = none) (ha : PA X [e, e2] ta) (n1 : noStar e = true) (n2 : noStar e2 = true) (hk : strictB b kws = true) :
    PE X (.Call (.Name "list" p) [.Call (.Name "zip" p2) [e, e2] kws pos2] [] pos) (tLz X.K b ta) := by
  refine ⟨fun pins s σ H Q I h => ?_⟩
  refine wpAny_Call_Name_kw (ld_blt I hgl hml PyProof.Rows.boot_list ?_)
  have hs : starEach [.Call (.Name "zip" p2) [e, e2] kws pos2] X.env = (false, eval (.Call (.Name "zip" p2) [e, e2] kws pos2) X.env) :: starEach [] X.env := rfl
  refine PyProof.Rows.callWith_type1 ?_ hs rfl
  rw [hs]
  show wpAny (model X.prog X.w) X.A (spliced ((false, eval (.Call (.Name "zip" p2) [e, e2] kws pos2) X.env) :: backTo pos (starEach [] X.env))) _ _ s
  refine Calls.spliced_cons ?_
  refine ev_zip (b := b) hg hm ha n1 n2 hk I h fun us vs H1 s1 I1 r1 ⟨a, c, q1, q2, xs, ys, e0, t1, t2, hb, q⟩ => ?_
  subst e0
  cases r1 with
  | cons r rr =>
    cases rr with
    | cons r' rr =>
      cases rr
      cases r
      cases r'
      obtain ⟨its, rv, la, k1⟩ := sqk_full I1 t1
      obtain ⟨its2, rv2, lc, k2⟩ := sqk_full I1 t2
      have z1 := sqk_size I1 t1
      have m1 := rv.length
      have m2 := rv2.length
      refine call_zipK k1 k2 fun h' hz pI pO i1 i2 hk => Calls.spliced_nil ?_
      have g1 : SI q1 h' s1.heap.objs.size a 0 its.toArray := si_of i1 k1 hk
      have g2 : SI q2 h' (s1.heap.objs.size + 1) c 0 its2.toArray := si_of i2 k2 hk
      have big : s1.heap.objs.size + 4 < h'.objs.size := Heap.lt_size hz
      refine zl_call (s := { s1 with heap := h' }) (I1.ok.hd hc) (PySem.W.ktu_apart s1.heap.objs.size a c la lc) (fun z => by simpa [m1, m2] using hb z) (by simp; omega) hz pI pO g1 g2 (Nat.lt_trans la (Nat.lt_of_le_of_lt (Nat.le_add_right _ 4) big)) (Nat.lt_trans lc (Nat.lt_of_le_of_lt (Nat.le_add_right _ 4) big)) fun h2 tk acc cc as hk2 hS hl hG hacc => ?_
      have keep : ∀ m o, s1.heap.get? m = some o → h2.get? m = some o := fun m o y => by
        have lt := Heap.lt_size y
        exact hk2 m o (Nat.ne_of_lt (Nat.lt_of_lt_of_le lt (Nat.le_add_right _ 4))) (Nat.ne_of_lt (Nat.lt_of_lt_of_le lt (Nat.le_add_right _ 3))) (Nat.ne_of_lt lt) (Nat.ne_of_lt (Nat.lt_of_lt_of_le lt (Nat.le_add_right _ 1))) (hk m o y)
      obtain ⟨H', f1, f2, f3, f4, J⟩ := pairs_laid (tk := tk) I1 (by show s1.heap.objs.size ≤ h'.objs.size; omega) rv rv2 z1 keep hS (by simpa using hl) hG hacc
      exact ⟨.ref _, H', J, rfl, q H' _ as f1 f2 f3 (by rw [hl]; simp [m1, m2]) f4⟩
variable {cs : List D} {cl : Nat → List Vl → Sto → Res Vl} {kk : Nat} {k : Ck} {W : WX} {xa : Option (Addr × Addr × Addr)}
theorem nx_more {K : PySem.W.Frag} {F ρ : List Addr} {H H' : Hp} {st : Sto} (s : SR K H ρ F st) (h : ∀ m o, H m = some o → H' m = some o) : Nx ρ H ρ H' :=
  ⟨⟨[], by simp, fun a z => nomatch z⟩, fun a o e _ => h a o e, fun a xs e => e.elim (fun z => .inl (h _ _ z)) fun ⟨o, z⟩ => .inr ⟨o, h _ _ z⟩, fun a ha => by
    obtain ⟨n, hn⟩ := List.mem_iff_getElem?.mp ha
    have hl : n < st.length := by rw [← s.len]; exact (List.getElem?_eq_some_iff.mp hn).1
    obtain ⟨o, e⟩ := (s.live a ha)
    exact ⟨o, h _ _ e⟩⟩
theorem rpa_pairs {K : PySem.W.Frag} {F ρ : List Addr} {H H' : Hp} {us vs : List V} {xs ys : List D} {ts : List Addr} (n : Nx ρ H ρ H') (r1 : RpA K H (ρ ++ F) us xs) (r2 : RpA K H (ρ ++ F) vs ys) (hl : ts.length = min us.length vs.length)
    (ht : ∀ (j : Nat) (u v : V), us[j]? = some u → vs[j]? = some v → ∃ t, ts[j]? = some t ∧ H t = none ∧ H' t = some (.tup [u, v])) : RpA K H' (ρ ++ F) (ts.map V.ref) (pairsD xs ys) := by
  induction ts generalizing us vs xs ys with
  | nil =>
    have e : us = [] ∨ vs = [] := by
      cases us with
      | nil => exact .inl rfl
      | cons u us => cases vs with
        | nil => exact .inr rfl
        | cons v vs => simp at hl
    rcases e with rfl | rfl
    · cases r1; simp only [List.map_nil, pairsD]; exact .nil
    · cases r2; cases xs <;> simp only [List.map_nil, pairsD] <;> exact .nil
  | cons t ts ih =>
    cases r1 with
    | nil => simp at hl
    | cons p1 q1 =>
      cases r2 with
      | nil => simp at hl
      | cons p2 q2 =>
        obtain ⟨t', e1, _, e3⟩ := ht 0 _ _ rfl rfl
        cases (by simpa using e1 : t = t')
        simp only [List.map_cons, pairsD]
        exact .cons (.tup (.inl (.inl e3)) (.cons (Rp.mono n p1) (.cons (Rp.mono n p2) .nil))) (ih q1 q2 (by simp at hl; omega) fun j u v hu hv => by
          obtain ⟨t2, f1, f2, f3⟩ := ht (j + 1) u v (by simpa using hu) (by simpa using hv)
          exact ⟨t2, by simpa using f1, f2, f3⟩)
theorem snd_lzip {e : Expr} {a b : E} {s : Bool} (g : Gd cs cl kk k X W xa) (ha : ∀ e, ckE k a e = true → Snd X W xa e (evE cs cl a)) (hb : ∀ e, ckE k b e = true → Snd X W xa e (evE cs cl b)) (h : ckE k (.lzip a b s) e = true) : Snd X W xa e (evE cs cl (.lzip a b s)) := by
  unfold ckE at h
  split at h
  · rename_i m p n p2 y z kws pos2 pos
    simp only [Bool.and_eq_true, decide_eq_true_eq] at h
    obtain ⟨⟨⟨⟨⟨⟨⟨⟨⟨⟨⟨h0, rfl⟩, h2⟩, h3⟩, rfl⟩, h4⟩, h5⟩, h6⟩, h7⟩, h8⟩, h9⟩, h10⟩ := h
    obtain ⟨g1, g2, g3⟩ := g.gl h2
    have m1 := g.blt _ h3
    obtain ⟨g4, g5, g6⟩ := g.gl h4
    have m2 := g.blt _ h5
    have A := pa_cons (ha _ h6).pe (pa_cons (hb _ h8).pe pa_nil (star1 h9 _ X.env)) (star1 h7 _ X.env)
    refine snd_plain (PE.weak (pe_lz (b := s) (g.calm (by simpa using h0)) g1 m1 g4 m2 A h7 h9 h10) ?_) rfl
    rintro σ H Q ⟨ρ, F, st, env, s0, er, w⟩
    simp only [evE] at w
    refine ⟨ρ, F, st, env, s0, er, w.bnd fun v st1 e1 w ρ1 u H1 n1 s1 r1 => ?_⟩
    refine ⟨ρ1, F, st1, env, s1, er.mono n1, w.bndN n1 fun v2 st2 e2 w ρ2 u2 H2 n2 s2 r2 => ?_⟩
    unfold lzD zipOf at w
    cases v with
    | r n => exact w.elim
    | x _ _ => exact w.elim
    | d dx =>
      cases v2 with
      | r n => exact w.elim
      | x _ _ => exact w.elim
      | d dy =>
        simp only at w
        cases q1 : seqD dx with
        | none => rw [q1] at w; exact w.elim
        | some xs =>
          cases q2 : seqD dy with
          | none => rw [q1, q2] at w; exact w.elim
          | some ys =>
            rw [q1, q2] at w
            simp only at w
            by_cases hl : s = true ∧ xs.length ≠ ys.length
            · rw [if_pos hl] at w
              exact w.elim
            · rw [if_neg hl, bnd_ok] at w
              obtain ⟨a1, k1, vs1, rfl, t1, p1⟩ := seq_rp (Rp.mono n2 r1) q1
              obtain ⟨a2, k2, vs2, rfl, t2, p2⟩ := seq_rp r2 q2
              have l1 := p1.length
              have l2 := p2.length
              refine ⟨a1, a2, k1, k2, vs1, vs2, rfl, t1.here, t2.here, fun hs => Decidable.byContradiction fun z => hl ⟨hs, by omega⟩, fun H' pp ts f1 f2 f3 f4 f5 => ?_⟩
              have nn : Nx ρ2 H2 ρ2 H' := nx_more s2 f1
              exact w ρ2 _ H' ((n1.trans n2).trans nn) (s2.same nn f1) (.lst (.inl ⟨.inl f3, s2.freshF f2⟩) (rpa_pairs nn p1 p2 f4 f5))
  · cases h
end
end Ev
end
section
set_option maxRecDepth 10000
namespace Ev
open PySem PySem.Spec PyProof.Rows L2
section
variable {cs : List D} {cl : Nat → List Vl → Sto → Res Vl} {kk : Nat} {k : Ck} {X : Cx} {W : WX} {xa : Option (Addr × Addr × Addr)}
theorem Nx.updF {ρ ρ' : List Addr} {H H' : Hp} {p : Addr} {o : HO} (n : Nx ρ H ρ' H') (hp : H p = none) (hm : ∀ xs, ¬ Rd H' p (.tup xs)) : Nx ρ H ρ' (upd H' p o) := by
  refine ⟨n.ext, fun a u h ha => ?_, fun a xs h => ?_, fun a ha => ?_⟩
  · rw [upd_ne (ne_of_none h hp)]
    exact n.keep a u h ha
  · have q := n.tups a xs h
    have ne : a ≠ p := fun e => hm xs (by rw [← e]; exact q)
    rcases q with q | ⟨ob, q⟩
    · exact .inl (by rw [upd_ne ne]; exact q)
    · exact .inr ⟨ob, by rw [upd_ne ne]; exact q⟩
  · by_cases e : a = p
    · rw [e]; exact ⟨o, upd_same⟩
    · rw [upd_ne e]; exact n.live a ha
theorem RpA.dropF {K : PySem.W.Frag} {H : Hp} {ρ F : List Addr} {p : Addr} {vs : List V} {xs : List D} (r : RpA K H (ρ ++ p :: F) vs xs) : RpA K H (ρ ++ F) vs xs := r.sub fun a ha => by
  rcases List.mem_append.mp ha with z | z
  · exact List.mem_append_left _ z
  · exact List.mem_append_right _ (List.mem_cons_of_mem _ z)
/-- a comprehension between two turns; D the list that is being made -/
structure LcI (K : PySem.W.Frag) (F : List Addr) (ρ0 : List Addr) (H0 : Hp) (D : Addr) (ρ : List Addr) (H : Hp) (st : Sto) (acc : List PyData) : Prop where
  nx : Nx ρ0 H0 ρ H
  sr : SR K H ρ (D :: F) st
  nd : D ∉ ρ
  ls : ∃ vs, H D = some (.lst vs) ∧ RpA K H (ρ ++ D :: F) vs acc
def lcTurn (cs : List D) (cl : Nat → List Vl → Sto → Res Vl) (elt : E) (g : G) (c : E) (env0 : Envr) (x : D) (s : Sto) : Res (Option D) := match setG g (.d x) env0 with
  | none => .no
  | some env' => (evE cs cl c env' s).bnd fun b s1 => sel (tru b s1) ((evE cs cl elt env' s1).bnd fun y s2 => keepD y s2) (.ok none s1)
/-- one turn -/
theorem lc_turn {K : Ky} {F ρ0 ρ : List Addr} {H0 H H' : Hp} {D : Addr} {st st1 : Sto} {acc : List PyData} {elt c : E} {g : G} {own : List Nat} {σ : L2.St} {env : Envr} {x : V} {d : PyData} {o : Option PyData} {N : Hp → Prop}
    (hD : H0 D = none) (I : LcI K F ρ0 H0 D ρ H st acc) (er : ER K H0 F ρ0 σ env) (hg : gIn own g = true) (hx : Nw K ρ (D :: F) H x d H') (e : lcTurn cs cl elt g c (wipeE env own) d st = .ok o st1)
    (hN : ∀ ρ2 H2, (∀ y, o = some y → acc.length < sizeLine → LcI K F ρ0 H0 D ρ2 H2 st1 (acc ++ [y]) → N H2) ∧ (o = none → LcI K F ρ0 H0 D ρ2 H2 st1 acc → N H2)) (hz : ∀ y, o = some y → acc.length < sizeLine) :
    tGd K g x (wipe σ own) H' fun σ2 H2 => wipe σ2 own = wipe σ own ∧ tT K W0 (evE cs cl c) σ2 H2 fun b H3 =>
      if b = true then tV K W0 (evE cs cl elt) σ2 H3 fun y H4 => ∃ vs, H4 D = some (.lst vs) ∧ vs.length < sizeLine ∧ N (upd H4 D (.lst (vs ++ [y]))) else N H3 := by
  obtain ⟨n1, s1, r1⟩ := hx _ I.sr
  obtain ⟨vs, hv, rv⟩ := I.ls
  have hD1 : H' D = some (.lst vs) := n1.keep D _ hv I.nd
  have er1 : ER K H' (D :: F) ρ (wipe σ own) (wipeE env own) := by
    have q := (ER.more hD er).mono (F := D :: F) (I.nx.trans n1)
    exact q.wipe own
  unfold lcTurn at e
  cases e1 : setG g (.d d) (wipeE env own) with
  | none => rw [e1] at e; cases e
  | some env' =>
    rw [e1] at e
    simp only at e
    refine ⟨ρ, D :: F, st, _, .d d, env', s1, er1, r1, e1, fun σ2 H'' n1' s1 er2 hw => ?_⟩
    have hD1 := n1'.keep D _ hD1 I.nd
    have n1 := n1.trans n1'
    refine ⟨?_, ?_⟩
    · rw [hw own hg]
      have ww : ∀ (l : List Nat) (t : L2.St), wipe (wipe t l) l = wipe t l := by
        intro l
        induction l with
        | nil => intro t; rfl
        | cons i r ih =>
          intro t
          show (wipe ((wipe t r).set i none) r).set i none = (wipe t r).set i none
          have key : ∀ (r : List Nat) (t : L2.St), wipe (t.set i none) r = (wipe t r).set i none := by
            intro r
            induction r with
            | nil => intro t; rfl
            | cons j r ih2 =>
              intro t
              show (wipe (t.set i none) r).set j none = ((wipe t r).set j none).set i none
              rw [ih2]
              by_cases e : i = j
              · subst e; rfl
              · rw [List.set_comm _ _ e]
          rw [key, ih, List.set_set]
      exact ww own σ
    · cases e2 : evE cs cl c env' st with
      | no => rw [e2] at e; cases e
      | ex c9 f9 s9 => rw [e2] at e; cases e
      | ok b st2 =>
        rw [e2, bnd_ok] at e
        refine ⟨ρ, D :: F, st, env', s1, er2, ?_⟩
        rw [e2]
        cases e3 : tru b st2 with
        | none => rw [e3] at e; cases e
        | some t =>
          rw [e3] at e
          rw [tst_of e3]
          intro ρ2 b2 H2 n2 s2 hb
          cases hb
          have hD2 : H2 D = some (.lst vs) := n2.keep D _ hD1 I.nd
          have nd2 : D ∉ ρ2 := fun z => by
            obtain ⟨m, em, fm⟩ := n2.ext
            rw [em] at z
            rcases List.mem_append.mp z with z | z
            · exact I.nd z
            · rw [fm D z] at hD1; cases hD1
          cases t with
          | false =>
            rw [sel_ff] at e
            cases e
            rw [if_neg Bool.false_ne_true]
            exact (hN ρ2 H2).2 rfl ⟨I.nx.trans (n1.trans n2), s2, nd2, vs, hD2, rv.mono (n1.trans n2)⟩
          | true =>
            rw [sel_tt] at e
            rw [if_pos rfl]
            cases e4 : evE cs cl elt env' st2 with
            | no => rw [e4] at e; cases e
            | ex c9 f9 s9 => rw [e4] at e; cases e
            | ok y st3 =>
              rw [e4, bnd_ok] at e
              refine ⟨ρ2, D :: F, st2, env', s2, er2.mono n2, ?_⟩
              rw [e4]
              intro ρ3 yv H3 n3 s3 r3
              unfold keepD at e
              cases y with
              | r n => cases e
              | x _ _ => cases e
              | d yd =>
                cases e
                have hD3 : H3 D = some (.lst vs) := n3.keep D _ hD2 nd2
                have nd3 : D ∉ ρ3 := fun z => by
                  obtain ⟨m, em, fm⟩ := n3.ext
                  rw [em] at z
                  rcases List.mem_append.mp z with z | z
                  · exact nd2 z
                  · rw [fm D z] at hD2; cases hD2
                have nt := no_tup hD3
                have rv3 := rv.mono (n1.trans (n2.trans n3))
                have nn : Nx ρ0 H0 ρ3 H3 := I.nx.trans (n1.trans (n2.trans n3))
                refine ⟨vs, hD3, by rw [rv.length]; exact hz yd rfl, ?_⟩
                refine (hN ρ3 _).1 yd rfl (hz yd rfl) ⟨nn.updF hD nt, s3.updF nd3 nt, nd3, _, upd_same, (rv3.append (.cons r3 .nil)).upd (by simp) nt⟩
/-- the list that was made, to be written later on -/
theorem lc_own {K : PySem.W.Frag} {F ρ1 ρ2 : List Addr} {H1 H2 : Hp} {D : Addr} {st : Sto} {xs : List PyData} (hD : H1 D = none) (I : LcI K F ρ1 H1 D ρ2 H2 st xs) : Nx ρ1 H1 (ρ2 ++ [D]) H2 ∧ SR K H2 (ρ2 ++ [D]) F (st ++ [.lst xs]) ∧ (ρ2 ++ [D])[st.length]? = some D := by
  obtain ⟨vs, hv, rv⟩ := I.ls
  have s := I.sr
  have ap : ∀ l : List Addr, (ρ2 ++ [D]) ++ l = ρ2 ++ D :: l := fun l => by simp
  refine ⟨⟨?_, I.nx.keep, I.nx.tups, fun a ha => ?_⟩, ⟨by simp [s.len], ?_, fun n o a h1 h2 => ?_, fun a ha => s.liveF a (List.mem_cons_of_mem _ ha)⟩, ?_⟩
  · obtain ⟨m, em, fm⟩ := I.nx.ext
    refine ⟨m ++ [D], by rw [em, List.append_assoc], fun a ha => ?_⟩
    rcases List.mem_append.mp ha with z | z
    · exact fm a z
    · rw [List.mem_singleton.mp z]; exact hD
  · rcases List.mem_append.mp ha with z | z
    · exact I.nx.live a z
    · rw [List.mem_singleton.mp z]; exact ⟨_, hv⟩
  · rw [List.nodup_append]
    refine ⟨s.nd, by simp, fun a ha b hb e => ?_⟩
    rw [List.mem_singleton.mp hb] at e
    rw [e] at ha
    exact I.nd ha
  · rw [ap]
    by_cases hn : n < st.length
    · rw [List.getElem?_append_left hn] at h1
      rw [List.getElem?_append_left (by rw [s.len]; exact hn)] at h2
      exact s.obj n o a h1 h2
    · have e : n = st.length := by
        have := (List.getElem?_eq_some_iff.mp h1).1
        simp only [List.length_append, List.length_singleton] at this
        omega
      subst e
      rw [List.getElem?_append_right (Nat.le_refl _), Nat.sub_self] at h1
      rw [← s.len, List.getElem?_append_right (Nat.le_refl _), Nat.sub_self] at h2
      cases h1
      cases h2
      exact ⟨vs, hv, rv⟩
  · rw [← s.len, List.getElem?_append_right (Nat.le_refl _), Nat.sub_self]
    rfl
theorem snd_lc {e : Expr} {elt c : E} {g : G} {it : It} {own : List Nat} {sto : Bool} (gd : Gd cs cl kk k X W xa) (hi : ∀ c, c ∈ itSubs it → ∀ e, ckE k c e = true → Snd X W xa e (evE cs cl c))
    (he : ∀ {k : Ck} {X : Cx} {W : WX} {xa : Option (Addr × Addr × Addr)}, Gd cs cl kk k X W xa → ∀ e, ckE k elt e = true → Snd X W xa e (evE cs cl elt)) (hc : ∀ {k : Ck} {X : Cx} {W : WX} {xa : Option (Addr × Addr × Addr)}, Gd cs cl kk k X W xa → ∀ e, ckE k c e = true → Snd X W xa e (evE cs cl c))
    (h : ckE k (.lc elt g it c own sto) e = true) : Snd X W xa e (evE cs cl (.lc elt g it c own sto)) ∧ ∀ (i : Nat) (y : Str) (py spos : Pos), X.N[i]? = some y → X.env.scope.names.lookup y = some .local → swapsWith e (some (.Name y py)) spos.line X.env = pure true →
      PS X (.Assign [.Name y py] e spos) (tAsg (tV (ky X xa) W (evE cs cl (.lc elt g it c own sto))) (gName i)) := by
  unfold ckE at h
  split at h
  · rename_i el tg iter ifs scope pos
    simp only [Bool.and_eq_true] at h
    obtain ⟨⟨⟨⟨⟨⟨⟨⟨hk, h0⟩, h1⟩, h2⟩, h3⟩, h4⟩, h5⟩, h6⟩, h7⟩ := h
    simp only [Bool.not_eq_true'] at hk
    have ok : BlkOk X.N X.env.scope scope (ownOf k.N own) := by
      rw [gd.hN, gd.sc]
      exact blkOk_by h3
    have ow : (ownOf k.N own).map (·.2) = own := by
      clear h3 ok h4
      induction own with
      | nil => rfl
      | cons i r ih => simp [ownOf, ih]
    have tests : ∀ (s : Shared) (H : Hp) (C : Addr) (cells : List (Str × Addr)) (fp : List Addr), PTs (X.blk s H scope (compEnvC scope cells C X.env) fp) ifs (tT (ky X xa) W0 (evE cs cl c)) := by
      intro s H C cells fp
      have g2 := gd.blk hk scope s H C cells fp
      split at h7
      · cases c <;> first
          | (simp at h7; done)
          | skip
        rename_i b
        cases b with
        | false => simp at h7
        | true =>
          refine ⟨fun pins s σ H Q I w => pts_nil.run pins s σ H Q I ?_⟩
          obtain ⟨ρ, F, st, env, s0, er, w⟩ := w
          exact w.fin s0 rfl
      · rename_i t
        rw [Bool.and_eq_true] at h7
        exact pts_one ((hc g2 _ h7.1).pt h7.2)
      · cases h7
    have rule := pe_lc (own := ownOf k.N own) (pos := pos) (elt := el) (tg := tg) (g := tGd (ky X xa) g) (tt := tT (ky X xa) W0 (evE cs cl c)) (te := tV (ky X xa) W0 (evE cs cl elt)) (wi := tI (ky X xa) W (evIt cs cl it)) (gd.calm hk) gd.nd (snd_it (tg := tg) gd hi h0 h1) ok (fun s H C cells fp => sndG (gd.blk hk scope s H C cells fp) g h5) tests (fun s H C cells fp => (he (gd.blk hk scope s H C cells fp) _ h6).pe) (setPlain h2 X.env)
    rw [ow] at rule
    have rdg : ∀ {σ : L2.St} {H : Hp} {Q : VK}, tV (ky X xa) W (evE cs cl (.lc elt g it c own sto)) σ H Q → tLc (tI (ky X xa) W (evIt cs cl it)) (tGd (ky X xa) g) (tT (ky X xa) W0 (evE cs cl c)) (tV (ky X xa) W0 (evE cs cl elt)) own σ H Q := ?rdg
    · refine ⟨snd_plain (PE.weak rule fun σ H Q w => rdg w) rfl, fun i y py spos hi2 hl hsw => ?_⟩
      have ruleS := ps_setLc (i := i) (own := ownOf k.N own) (pos := pos) (elt := el) (tg := tg) (g := tGd (ky X xa) g) (tt := tT (ky X xa) W0 (evE cs cl c)) (te := tV (ky X xa) W0 (evE cs cl elt)) (wi := tI (ky X xa) W (evIt cs cl it)) (gd.calm hk) gd.nd hi2 hl hsw (snd_it (tg := tg) gd hi h0 h1) ok (fun s H C cells fp => sndG (gd.blk hk scope s H C cells fp) g h5) tests (fun s H C cells fp => (he (gd.blk hk scope s H C cells fp) _ h6).pe) (setPlain h2 X.env)
      rw [ow] at ruleS
      exact PS.weak ruleS fun D σ H w => rdg w
    rintro σ H Q ⟨ρ, F, st, env, s, er, w⟩
    simp only [evE] at w
    refine ⟨ρ, F, st, env, s, er, w.bnd fun src st1 e1 w ρ1 J H1 n1 s1 hJ D hD => ?_⟩
    obtain ⟨xs, st2, e2, w⟩ := w.inv
    have w1 := w.nx n1
    have er1 := er.mono n1
    -- the end
    have fin : ∀ ρ2 H2, LcI X.K F ρ1 H1 D ρ2 H2 st2 xs → Q (.ref D) H2 := fun ρ2 H2 I => by
      obtain ⟨vs, hv, rv⟩ := I.ls
      cases sto with
      | true =>
        rw [sel_tt] at w1
        obtain ⟨n2, s2, e2⟩ := lc_own hD I
        exact w1 (ρ2 ++ [D]) _ H2 n2 s2 ⟨D, e2, rfl⟩
      | false =>
      rw [sel_ff] at w1
      refine w1 ρ2 _ H2 I.nx I.sr.dropF (.lst (.inl ⟨.inl hv, ?_⟩) rv.dropF)
      intro z
      rcases List.mem_append.mp z with z | z
      · exact I.nd z
      · obtain ⟨u, hu⟩ := s1.liveF D z
        rw [hD] at hu
        cases hu
    have start : LcI X.K F ρ1 H1 D ρ1 (upd H1 D (.lst [])) st1 [] := ⟨s1.nxNew hD, s1.addF hD, s1.fresh hD, [], upd_same, .nil⟩
    have turn_eq : (fun (x : PyData) (s : Sto) => match setG g (.d x) (wipeE env own) with
        | none => (Res.no : Res (Option PyData))
        | some env' => (evE cs cl c env' s).bnd fun b s1 => sel (tru b s1) ((evE cs cl elt env' s1).bnd fun y s2 => keepD y s2) (.ok none s1)) = lcTurn cs cl elt g c (wipeE env own) := by
      funext x s
      unfold lcTurn
      cases setG g (.d x) (wipeE env own) <;> rfl
    cases src with
    | fix ds =>
      have e3 : lcFix (lcTurn cs cl elt g c (wipeE env own)) ds [] st1 = .ok xs st2 := by
        rw [← turn_eq]
        exact e2
      have hJ : JFix X.K F J ρ1 H1 ds := hJ
      refine ⟨fun i m H' => m = ds.length - i ∧ i ≤ ds.length ∧ ∃ ρ' st' acc, LcI X.K F ρ1 H1 D ρ' H' st' acc ∧ lcFix (lcTurn cs cl elt g c (wipeE env own)) (ds.drop i) acc st' = .ok xs st2, ⟨ds.length, by simp, Nat.zero_le _, ρ1, st1, [], start, by simpa using e3⟩, ?_⟩
      rintro i m H' ⟨rfl, hi2, ρ', st', acc, I, e4⟩
      by_cases hlt : i < ds.length
      · refine .inr ⟨hJ.go ρ' H' i I.nx hlt, fun H2 => ∃ ρ2 st3 acc2, LcI X.K F ρ1 H1 D ρ2 H2 st3 acc2 ∧ lcFix (lcTurn cs cl elt g c (wipeE env own)) (ds.drop (i + 1)) acc2 st3 = .ok xs st2, fun H2 hq => ⟨ds.length - (i + 1), by omega, rfl, hlt, hq⟩, fun x H2 y => ?_⟩
        have hd : ds[i]? = some ds[i] := List.getElem?_eq_getElem hlt
        have new1 := hJ.yld (D :: F) ρ' H' i x H2 (fun a ha => (List.mem_cons.mp ha).elim (fun z => .inr (by rw [z]; exact hD)) .inl) I.nx y _ hd
        rw [List.drop_eq_getElem_cons hlt] at e4
        unfold lcFix at e4
        cases e5 : lcTurn cs cl elt g c (wipeE env own) ds[i] st' with
        | no => rw [e5] at e4; cases e4
        | ex c9 f9 s9 => rw [e5] at e4; cases e4
        | ok o st3 =>
          rw [e5, calm_ok, bnd_ok] at e4
          refine lc_turn hD I er1 h4 new1 e5 (fun ρ2 H3 => ⟨fun y ho hz J2 => ?_, fun ho J2 => ?_⟩) (fun y ho => ?_)
          · subst ho
            simp only at e4
            rw [if_pos hz] at e4
            exact ⟨ρ2, st3, _, J2, e4⟩
          · subst ho
            exact ⟨ρ2, st3, _, J2, e4⟩
          · subst ho
            simp only at e4
            by_cases hz : acc.length < sizeLine
            · exact hz
            · rw [if_neg hz] at e4
              cases e4
      · have e : i = ds.length := by omega
        subst e
        rw [List.drop_length] at e4
        unfold lcFix at e4
        cases e4
        exact .inl ⟨hJ.stop ρ' H' I.nx, fin ρ' H' I⟩
    | obj n len =>
      have e3 : lcObj (lcTurn cs cl elt g c (wipeE env own)) n len len 0 [] st1 = .ok xs st2 := by
        rw [← turn_eq]
        exact e2
      obtain ⟨a, ea, rfl⟩ := hJ
      -- the list as it stands
      have seen : ∀ {ρ' : List Addr} {H' : Hp} {st' : Sto} {acc : List PyData} {ys : List PyData}, LcI X.K F ρ1 H1 D ρ' H' st' acc → st'[n]? = some (.lst ys) → ∃ vs, H' a = some (.lst vs) ∧ RpA X.K H' (ρ' ++ D :: F) vs ys := fun {ρ' H' st' acc ys} I e => by
        have ea' : ρ'[n]? = some a := by
          obtain ⟨m, em, _⟩ := I.nx.ext
          rw [em, List.getElem?_append_left (List.getElem?_eq_some_iff.mp ea).1]
          exact ea
        exact I.sr.obj n _ a e ea'
      refine ⟨fun i m H' => i + m = len ∧ ∃ ρ' st' acc, LcI X.K F ρ1 H1 D ρ' H' st' acc ∧ lcObj (lcTurn cs cl elt g c (wipeE env own)) n len m i acc st' = .ok xs st2, ⟨len, by omega, ρ1, st1, [], start, e3⟩, ?_⟩
      rintro i m H' ⟨hm, ρ', st', acc, I, e4⟩
      cases m with
      | zero =>
        unfold lcObj at e4
        split at e4
        · rename_i hz
          cases e4
          rw [Bool.and_eq_true] at hz
          have hz1 := hz.1
          unfold stillAt at hz1
          split at hz1
          · rename_i ys e5
            obtain ⟨vs, q1, q2⟩ := seen I e5
            refine .inl ⟨⟨vs, .inl (.inl q1), ?_⟩, fin ρ' H' I⟩
            rw [q2.length, eq_of_beq hz1]
            omega
          · cases hz1
        · cases e4
      | succ m =>
        unfold lcObj at e4
        cases e5 : itemAt n len i st' with
        | none => rw [e5] at e4; cases e4
        | some d =>
          rw [e5] at e4
          simp only at e4
          unfold itemAt at e5
          split at e5
          · rename_i ys e6
            split at e5
            · obtain ⟨vs, q1, q2⟩ := seen I e6
              obtain ⟨v, q3, q4⟩ := q2.get e5
              refine .inr ⟨⟨vs, v, .inl (.inl q1), q3⟩, fun H2 => ∃ ρ2 st3 acc2, LcI X.K F ρ1 H1 D ρ2 H2 st3 acc2 ∧ lcObj (lcTurn cs cl elt g c (wipeE env own)) n len m (i + 1) acc2 st3 = .ok xs st2, fun H2 hq => ⟨m, by omega, by omega, hq⟩, fun x H2 y => ?_⟩
              obtain ⟨rfl, y⟩ := y
              have hx : x = v := by
                have z := y vs (.inl (.inl q1))
                rw [q3] at z
                exact (Option.some.inj z).symm
              subst hx
              cases e7 : lcTurn cs cl elt g c (wipeE env own) d st' with
              | no => rw [e7] at e4; cases e4
              | ex c9 f9 s9 => rw [e7] at e4; cases e4
              | ok o st3 =>
                rw [e7, calm_ok, bnd_ok] at e4
                refine lc_turn hD I er1 h4 (New.nw (.old q4)) e7 (fun ρ2 H3 => ⟨fun y ho hz J2 => ?_, fun ho J2 => ?_⟩) (fun y ho => ?_)
                · subst ho
                  simp only at e4
                  rw [if_pos hz] at e4
                  exact ⟨ρ2, st3, _, J2, e4⟩
                · subst ho
                  exact ⟨ρ2, st3, _, J2, e4⟩
                · subst ho
                  simp only at e4
                  by_cases hz : acc.length < sizeLine
                  · exact hz
                  · rw [if_neg hz] at e4
                    cases e4
            · cases e5
          · cases e5
  · cases h
/-! ### all expressions -/
mutual
theorem sndE : ∀ (c : E) {k : Ck} {X : Cx} {W : WX} {xa : Option (Addr × Addr × Addr)}, Gd cs cl kk k X W xa → ∀ e, ckE k c e = true → Snd X W xa e (evE cs cl c)
  | .var i, k, X, W, xa, g, e, h => snd_var g h
  | .int n, k, X, W, xa, g, e, h => by
    unfold ckE at h
    split at h
    · have z := of_decide_eq_true h
      subst z
      exact snd_const pe_int (fun _ _ => .int _) (fun _ _ => rfl) rfl
    · cases h
  | .bl b, k, X, W, xa, g, e, h => by
    unfold ckE at h
    split at h
    · have z := eq_of_beq h
      subst z
      exact snd_const pe_bl (fun _ _ => .bl _) (fun _ _ => rfl) rfl
    · cases h
  | .non, k, X, W, xa, g, e, h => by
    unfold ckE at h
    split at h
    · exact snd_const pe_non (fun _ _ => .non) (fun _ _ => rfl) rfl
    · cases h
  | .str x, k, X, W, xa, g, e, h => by
    unfold ckE at h
    split at h
    · have z := of_decide_eq_true h
      subst z
      exact snd_const pe_str (fun _ _ => .str _) (fun _ _ => rfl) rfl
    · cases h
  | .cst i, k, X, W, xa, g, e, h => by
    unfold ckE at h
    split at h
    · simp only [Bool.and_eq_true, decide_eq_true_eq] at h
      obtain ⟨g1, g2, g3⟩ := g.gl h.2
      cases hv : cs[i]? with
      | none =>
        refine snd_plain ⟨fun pins s σ H Q I w => ?_⟩ rfl
        obtain ⟨ρ, F, st, env, s0, er, w⟩ := w
        simp only [evE, hv] at w
        exact w.elim
      | some v =>
        obtain ⟨u, z, m1, m2, m3⟩ := g.cst i _ v h.1 hv
        exact snd_const (pe_glob g1 m1 m2 g2) m3 (fun _ _ => by simp only [evE, hv]; rfl) rfl
    · cases h
  | .bin op a b, k, X, W, xa, g, e, h => snd_bin (sndE a g) (sndE b g) h
  | .neg a, k, X, W, xa, g, e, h => snd_neg (sndE a g) h
  | .nt a, k, X, W, xa, g, e, h => snd_not (sndE a g) h
  | .cmp op a b, k, X, W, xa, g, e, h => snd_cmp g (sndE a g) (sndE b g) h
  | .cmp2 op op' a b c, k, X, W, xa, g, e, h => snd_cmp2 g (sndE a g) (sndE b g) (sndE c g) h
  | .and a b, k, X, W, xa, g, e, h => snd_and (sndE a g) (sndE b g) h
  | .or a b, k, X, W, xa, g, e, h => snd_or (sndE a g) (sndE b g) h
  | .ifx c a b, k, X, W, xa, g, e, h => snd_ifx (sndE c g) (sndE a g) (sndE b g) h
  | .tup es, k, X, W, xa, g, e, h => snd_tup (fun xs hx => (sndEs es g xs hx).a) h
  | .lst es, k, X, W, xa, g, e, h => snd_lst (fun xs hx => (sndEs es g xs hx).a) h
  | .lstS es, k, X, W, xa, g, e, h => snd_lstS (fun xs hx => (sndEs es g xs hx).a) h
  | .dicS ks es, k, X, W, xa, g, e, h => snd_dicS (fun xs hx => sndEs es g xs hx) h
  | .sub a b, k, X, W, xa, g, e, h => snd_sub (sndE a g) (sndE b g) h
  | .dget a b, k, X, W, xa, g, e, h => snd_dget g (sndE a g) (sndE b g) h
  | .slc a lo hi, k, X, W, xa, g, e, h => snd_slc (sndE a g) (sndE lo g) (sndE hi g) h
  | .rev a, k, X, W, xa, g, e, h => snd_rev (sndE a g) h
  | .nil, k, X, W, xa, g, e, h => by simp [ckE] at h
  | .own (.bin op a b), k, X, W, xa, g, e, h => own_bin (sndE a g) (sndE b g) (by
      unfold ckE at h
      exact (Bool.and_eq_true_iff.mp h).2)
  | .own (.bi bb es), k, X, W, xa, g, e, h => by
      unfold ckE at h
      have h := Bool.and_eq_true_iff.mp h
      have z := fun xs hx => (sndEs es g xs hx)
      cases bb <;> first
        | (have q := h.1; simp [okOwn] at q; done)
        | exact own_list g (fun xs hx => (z xs hx).a) h.2
  | .own (.slc a lo hi), k, X, W, xa, g, e, h => own_slc (sndE a g) (sndE lo g) (sndE hi g) (by
      unfold ckE at h
      exact (Bool.and_eq_true_iff.mp h).2)
  | .own (.var _), k, X, W, xa, g, e, h => by simp [ckE, okOwn] at h
  | .own (.int _), k, X, W, xa, g, e, h => by simp [ckE, okOwn] at h
  | .own (.bl _), k, X, W, xa, g, e, h => by simp [ckE, okOwn] at h
  | .own .non, k, X, W, xa, g, e, h => by simp [ckE, okOwn] at h
  | .own (.str _), k, X, W, xa, g, e, h => by simp [ckE, okOwn] at h
  | .own (.cst _), k, X, W, xa, g, e, h => by simp [ckE, okOwn] at h
  | .own (.neg _), k, X, W, xa, g, e, h => by simp [ckE, okOwn] at h
  | .own (.nt _), k, X, W, xa, g, e, h => by simp [ckE, okOwn] at h
  | .own (.cmp _ _ _), k, X, W, xa, g, e, h => by simp [ckE, okOwn] at h
  | .own (.cmp2 _ _ _ _ _), k, X, W, xa, g, e, h => by simp [ckE, okOwn] at h
  | .own (.and _ _), k, X, W, xa, g, e, h => by simp [ckE, okOwn] at h
  | .own (.or _ _), k, X, W, xa, g, e, h => by simp [ckE, okOwn] at h
  | .own (.ifx _ _ _), k, X, W, xa, g, e, h => by simp [ckE, okOwn] at h
  | .own (.tup _), k, X, W, xa, g, e, h => by simp [ckE, okOwn] at h
  | .own (.lst _), k, X, W, xa, g, e, h => by simp [ckE, okOwn] at h
  | .own (.lstS _), k, X, W, xa, g, e, h => by simp [ckE, okOwn] at h
  | .own (.dicS _ _), k, X, W, xa, g, e, h => by simp [ckE, okOwn] at h
  | .own (.sub _ _), k, X, W, xa, g, e, h => by simp [ckE, okOwn] at h
  | .own (.dget _ _), k, X, W, xa, g, e, h => by simp [ckE, okOwn] at h
  | .own (.rev _), k, X, W, xa, g, e, h => by simp [ckE, okOwn] at h
  | .own .nil, k, X, W, xa, g, e, h => by simp [ckE, okOwn] at h
  | .own (.own _), k, X, W, xa, g, e, h => by simp [ckE, okOwn] at h
  | .own (.call _ _), k, X, W, xa, g, e, h => by simp [ckE, okOwn] at h
  | .own (.isin _ _), k, X, W, xa, g, e, h => by simp [ckE, okOwn] at h
  | .own (.lc _ _ _ _ _ _), k, X, W, xa, g, e, h => by simp [ckE, okOwn] at h
  | .own (.mth _ _ _), k, X, W, xa, g, e, h => by simp [ckE, okOwn] at h
  | .own (.lzip _ _ _), k, X, W, xa, g, e, h => by simp [ckE, okOwn] at h
  | .own (.callk _ _ _ _ _), k, X, W, xa, g, e, h => by simp [ckE, okOwn] at h
  | .own (.isx _ _), k, X, W, xa, g, e, h => by simp [ckE, okOwn] at h
  | .own (.fld _ _), k, X, W, xa, g, e, h => by simp [ckE, okOwn] at h
  | .callk j f arr es ks, k, X, W, xa, g, e, h => snd_callk g (fun xs hx => (sndEs es g xs hx).a) (fun xs hx => sndEs ks g xs hx) h
  | .isx a ns, k, X, W, xa, g, e, h => snd_isx g (sndE a g) h
  | .fld a f, k, X, W, xa, g, e, h => snd_fld g (sndE a g) h
  | .lzip a b s, k, X, W, xa, g, e, h => snd_lzip g (sndE a g) (sndE b g) h
  | .call f es, k, X, W, xa, g, e, h => snd_call g (fun xs hx => (sndEs es g xs hx).a) h
  | .bi b es, k, X, W, xa, g, e, h => snd_bi g (fun xs hx => (sndEs es g xs hx).a) h
  | .isin a t, k, X, W, xa, g, e, h => snd_isin g (sndE a g) h
  | .lc elt gg it c own sto, k, X, W, xa, g, e, h => (snd_lc g (sndIt it g) (fun g' => sndE elt g') (fun g' => sndE c g') h).1
  | .mth m o es, k, X, W, xa, g, e, h => snd_mth (sndE o g) (fun xs hx => (sndEs es g xs hx).a) h
theorem sndEs : ∀ (es : Es) {k : Ck} {X : Cx} {W : WX} {xa : Option (Addr × Addr × Addr)}, Gd cs cl kk k X W xa → ∀ xs, ckEs k es xs = true → AllS X W xa cs cl es xs
  | .nil, k, X, W, xa, g, [], h => .nil
  | .nil, k, X, W, xa, g, _ :: _, h => by simp [ckEs] at h
  | .cons _ _, k, X, W, xa, g, [], h => by simp [ckEs] at h
  | .cons c r, k, X, W, xa, g, x :: xs, h => by
    simp only [ckEs, Bool.and_eq_true] at h
    exact .cons (sndE c g x h.1.1) h.1.2 (sndEs r g xs h.2)
theorem sndIt : ∀ (i : It) {k : Ck} {X : Cx} {W : WX} {xa : Option (Addr × Addr × Addr)}, Gd cs cl kk k X W xa → ∀ c, c ∈ itSubs i → ∀ e, ckE k c e = true → Snd X W xa e (evE cs cl c)
  | .val a, k, X, W, xa, g, c, hc, e, h => by
    have z : c = a := by simpa [itSubs] using hc
    rw [z] at h ⊢
    exact sndE a g e h
  | .rng1 a, k, X, W, xa, g, c, hc, e, h => by
    have z : c = a := by simpa [itSubs] using hc
    rw [z] at h ⊢
    exact sndE a g e h
  | .enu a, k, X, W, xa, g, c, hc, e, h => by
    have z : c = a := by simpa [itSubs] using hc
    rw [z] at h ⊢
    exact sndE a g e h
  | .chr a, k, X, W, xa, g, c, hc, e, h => by
    have z : c = a := by simpa [itSubs] using hc
    rw [z] at h ⊢
    exact sndE a g e h
  | .rng2 a b, k, X, W, xa, g, c, hc, e, h => by
    have z : c = a ∨ c = b := by simpa [itSubs] using hc
    rcases z with z | z
    · rw [z] at h ⊢
      exact sndE a g e h
    · rw [z] at h ⊢
      exact sndE b g e h
  | .zip a b _, k, X, W, xa, g, c, hc, e, h => by
    have z : c = a ∨ c = b := by simpa [itSubs] using hc
    rcases z with z | z
    · rw [z] at h ⊢
      exact sndE a g e h
    · rw [z] at h ⊢
      exact sndE b g e h
  | .ezip a b _, k, X, W, xa, g, c, hc, e, h => by
    have z : c = a ∨ c = b := by simpa [itSubs] using hc
    rcases z with z | z
    · rw [z] at h ⊢
      exact sndE a g e h
    · rw [z] at h ⊢
      exact sndE b g e h
  | .rng3 a b d, k, X, W, xa, g, c, hc, e, h => by
    have z : c = a ∨ c = b ∨ c = d := by simpa [itSubs] using hc
    rcases z with z | z | z
    · rw [z] at h ⊢
      exact sndE a g e h
    · rw [z] at h ⊢
      exact sndE b g e h
    · rw [z] at h ⊢
      exact sndE d g e h
end
end
end Ev
end
section
set_option maxRecDepth 10000
namespace Ev
open PySem PySem.Spec PyProof.Rows L2
theorem swD_ok {sc : Scope} {ts vs : List Expr} {env : Env} {k k2 : Nat} {p p2 : Pos} {b : Bool} (hk : env.scope.kind = .function) (hs : env.scope = sc) (hn : vs.all noStar = true) (h : swD sc ts vs = some b) :
    swappedStores [.Tuple ts k p] (.Tuple vs k2 p2) env = pure (if b then some (swNames sc ts) else none) := by
  subst hs
  have hb : (env.blockKind != ScopeKind.function) = false := by unfold Env.blockKind; rw [hk]; rfl
  have hst : vs.any starB = false := by
    rw [List.any_eq_false]
    intro x hx
    have := List.all_eq_true.mp hn x hx
    cases x <;> first | (simp [starB]; done) | (simp [noStar] at this; done)
  unfold swD at h
  unfold swappedStores
  change (if (!(ts.length == 2 || ts.length == 3) || vs.length != ts.length || env.blockKind != ScopeKind.function) = true then (pure none : Sem (Option (List Str))) else
    if vs.any starB = true then pure none else
    if ((swNames env.scope ts).length != ts.length || (swNames env.scope ts).eraseDups.length != (swNames env.scope ts).length) = true then pure none else
    if vs.all (foldedForSure 8) = true then pure none else
    if vs.all (constantsAlone 8) = true then (do let _ ← (unsupported "assign.tuple-of-constant-expressions:order-of-the-stores" : Sem Unit); pure (some (swNames env.scope ts))) else pure (some (swNames env.scope ts))) = _
  rw [hb, hst, Bool.or_false]
  generalize hlen : (ts.length == 2 || ts.length == 3) = l1 at h ⊢
  rw [bne]
  generalize hl2 : (vs.length == ts.length) = l2 at h ⊢
  cases l1 <;> cases l2 <;> simp only [Bool.and_true, Bool.and_false, Bool.not_true, Bool.not_false, Bool.or_true, Bool.or_false, if_true, if_false, Bool.false_eq_true] at h ⊢
  · cases h; rfl
  · cases h; rfl
  · cases h; rfl
  · split at h
    · rename_i q
      rw [if_pos q]; cases h; rfl
    · rename_i q
      rw [if_neg q]
      split at h
      · rename_i q2
        rw [if_pos q2]; cases h; rfl
      · rename_i q2
        rw [if_neg q2]
        split at h
        · cases h
        · rename_i q3
          rw [if_neg q3]; cases h; rfl
def WnF (K : Ky) (Z : XK) (F ρ : List Addr) (H : Hp) (r : Res Fl) (D : Ends) : Prop := match r with
  | .ok (.nx env) st => ∀ ρ' σ' H', Nx ρ H ρ' H' → SR K H' ρ' F st → ER K H' F ρ' σ' env → D.nx σ' H'
  | .ok (.bk env) st => ∀ ρ' σ' H', Nx ρ H ρ' H' → SR K H' ρ' F st → ER K H' F ρ' σ' env → D.bk σ' H'
  | .ok (.ct env) st => ∀ ρ' σ' H', Nx ρ H ρ' H' → SR K H' ρ' F st → ER K H' F ρ' σ' env → D.ct σ' H'
  | .ok (.ret v) st => ∀ ρ' x H', Nx ρ H ρ' H' → SR K H' ρ' F st → RV K H' F ρ' x v → D.rt x H'
  | .ok (.rtt vs) st => ∀ ρ' x H', Nx ρ H ρ' H' → SR K H' ρ' F st → (∃ a us, x = .ref a ∧ SqT K H' a us ∧ RVs K H' F ρ' us vs) → D.rt x H'
  | .ex c fs st => ∀ ρ' H' C d, Nx ρ H ρ' H' → SR K H' ρ' F st → XC K c C → XF K H' (ρ' ++ F) d fs → Z (.ref C) (some d) H'
  | .no => False
theorem WnF.nx {K : Ky} {Z : XK} {F ρ ρ1 : List Addr} {H H1 : Hp} {r : Res Fl} {D : Ends} (n : Nx ρ H ρ1 H1) (h : WnF K Z F ρ H r D) : WnF K Z F ρ1 H1 r D := by
  cases r with
  | no => exact h.elim
  | ex c fs st => exact fun ρ' H' C d n' => h ρ' H' C d (n.trans n')
  | ok fl st => cases fl <;> exact fun ρ' x H' n' => h ρ' x H' (n.trans n')
section
variable {K : Ky} {Z : XK} {F ρ ρ1 : List Addr} {H H1 : Hp} {D : Ends} {γ δ : Type}
theorem WnF.inv {r : Res γ} {f : γ → Sto → Res Fl} (h : WnF K Z F ρ H (r.calm.bnd f) D) : ∃ v st, r = .ok v st ∧ WnF K Z F ρ H (f v st) D := by
  cases r with
  | ok v st => exact ⟨v, st, rfl, h⟩
  | ex c fs st => exact h.elim
  | no => exact h.elim
theorem WnF.bnd {rel' : Hp → List Addr → δ → γ → Prop} {r : Res γ} {f : γ → Sto → Res Fl} {Q' : δ → Hp → Prop} (h : WnF K Z F ρ H (r.bnd f) D)
    (q : ∀ v st, r = .ok v st → WnF K Z F ρ H (f v st) D → ∀ ρ' x H', Nx ρ H ρ' H' → SR K H' ρ' F st → rel' H' ρ' x v → Q' x H') : Wn K Z F rel' ρ H r Q' := by
  cases r with
  | ok v st => exact q v st rfl h
  | ex c fs st => exact h
  | no => exact h.elim
theorem WnF.bndN {rel' : Hp → List Addr → δ → γ → Prop} {r : Res γ} {f : γ → Sto → Res Fl} {Q' : δ → Hp → Prop} (h : WnF K Z F ρ H (r.bnd f) D) (n : Nx ρ H ρ1 H1)
    (q : ∀ v st, r = .ok v st → WnF K Z F ρ H (f v st) D → ∀ ρ' x H', Nx ρ1 H1 ρ' H' → SR K H' ρ' F st → rel' H' ρ' x v → Q' x H') : Wn K Z F rel' ρ1 H1 r Q' := by
  cases r with
  | ok v st => exact q v st rfl h
  | ex c fs st => exact fun ρ' H' C d n' => h ρ' H' C d (n.trans n')
  | no => exact h.elim
theorem WnF.bndF {r : Res Fl} {f : Fl → Sto → Res Fl} {D' : Ends} (h : WnF K Z F ρ H (r.bnd f) D) (q : ∀ v st, r = .ok v st → WnF K Z F ρ H (f v st) D → WnF K Z F ρ H (.ok v st) D') : WnF K Z F ρ H r D' := by
  cases r with
  | ok v st => exact q v st rfl h
  | ex c fs st => exact h
  | no => exact h.elim
theorem WnF.tst {r : Res Vl} {f : Vl → Sto → Res Fl} {Q' : Bool → Hp → Prop} (h : WnF K Z F ρ H (r.bnd f) D) (q : ∀ v st, r = .ok v st → WnF K Z F ρ H (f v st) D → Wn K Z F relB ρ H (Ev.tst (.ok v st)) Q') : Wn K Z F relB ρ H (Ev.tst r) Q' := by
  cases r with
  | ok v st => exact q v st rfl h
  | ex c fs st => exact h
  | no => exact h.elim
end
def tS (K : Ky) (W : WX) (f : Envr → Sto → Res Fl) : TS := fun D σ H => ∃ ρ F st env, SR K H ρ F st ∧ ER K H F ρ σ env ∧ WnF K (fun c d => W c d σ) F ρ H (f env st) D
/-- a wish that doesn't look at names -/
def WI (W : WX) : Prop := ∀ c d σ σ' H, W c d σ H → W c d σ' H
section
variable {cs : List D} {cl : Nat → List Vl → Sto → Res Vl} {kk L : Nat} {k : Ck} {X : Cx} {W : WX} {xa : Option (Addr × Addr × Addr)}
theorem swNo {e : Expr} (h : noComp e = true) (t : Option Expr) (l : Nat) (env : Env) : swapsWith e t l env = pure false := by
  cases e <;> first | rfl | (simp [noComp] at h; done)
theorem st_expr {st : Stmt} {e : E} (g : Gd cs cl kk k X W xa) (h : ckS k (.expr e) st = true) : PS X st (tS (ky X xa) W (evS cs cl L (.expr e))) := by
  unfold ckS at h
  split at h
  · rw [Bool.and_eq_true] at h
    refine PS.weak (ps_expr (sndE e g _ h.1).pe (swNo h.2 _ _ _)) ?_
    rintro D σ H ⟨ρ, F, st, env, s, er, w⟩
    simp only [evS] at w
    exact ⟨ρ, F, st, env, s, er, w.bnd fun v st1 e1 w ρ1 x H1 n1 s1 r1 => w ρ1 σ H1 n1 s1 (er.mono n1)⟩
  · cases h
theorem st_ret {st : Stmt} {e : E} (g : Gd cs cl kk k X W xa) (h : ckS k (.ret e) st = true) : PS X st (tS (ky X xa) W (evS cs cl L (.ret e))) := by
  unfold ckS at h
  split at h
  · refine PS.weak (ps_ret (sndE e g _ h).pe) ?_
    rintro D σ H ⟨ρ, F, st, env, s, er, w⟩
    simp only [evS] at w
    exact ⟨ρ, F, st, env, s, er, w.bnd fun v st1 e1 w ρ1 x H1 n1 s1 r1 => w ρ1 x H1 n1 s1 r1⟩
  · cases h
theorem st_rett {st : Stmt} {es : Es} (g : Gd cs cl kk k X W xa) (h : ckS k (.rett es) st = true) : PS X st (tS (ky X xa) W (evS cs cl L (.rett es))) := by
  unfold ckS at h
  split at h
  · rw [Bool.and_eq_true] at h
    refine PS.weak (ps_ret (pe_tup (sndEs es g _ h.2).a.pa)) ?_
    rintro D σ H ⟨ρ, F, st, env, s, er, w⟩
    simp only [evS] at w
    refine ⟨ρ, F, st, env, s, er, w.bnd fun x st1 e1 w ρ1 vs H1 n1 s1 r1 => ?_⟩
    split at w
    · rename_i hz
      refine ⟨by rw [r1.length]; exact hz, fun p hp => ?_⟩
      have n2 := s1.nxNew (o := .tup vs) hp
      exact w ρ1 _ _ (n1.trans n2) (s1.new hp) ⟨p, vs, rfl, .inl (.inl upd_same), r1.mono n2⟩
    · exact w.elim
  · cases h
theorem st_aug {st : Stmt} {i : Nat} {op : Op} {e : E} (g : Gd cs cl kk k X W xa) (h : ckS k (.aug i op e) st = true) : PS X st (tS (ky X xa) W (evS cs cl L (.aug i op e))) := by
  unfold ckS at h
  split at h
  · simp only [Bool.and_eq_true, decide_eq_true_eq] at h
    obtain ⟨⟨⟨⟨h1, h2⟩, h3⟩, rfl⟩, h5⟩ := h
    obtain ⟨l1, l2⟩ := g.loc h2
    have hi : X.N[i]? = some _ := (by rw [g.hN]; exact h1)
    have S := (sndE e g _ h5).pe
    have rdg : ∀ (f : Int → Int → Int), (∀ a env v st, augTo i op a env v st = match v with
        | .d (.int b) => .ok (.nx (env.set i (some (.d (.int (f a b)))))) st
        | _ => .no) → ∀ D σ H, tS (ky X xa) W (evS cs cl L (.aug i op e)) D σ H → tAug i (tV (ky X xa) W (evE cs cl e)) (ipI f) D σ H := by
      rintro f hf D σ H ⟨ρ, F, st, env, s, er, w⟩
      simp only [evS] at w
      split at w
      · rename_i a ea
        obtain ⟨x, e1, r1⟩ := er.get ea
        cases r1
        refine ⟨_, e1, ρ, F, st, env, s, er, w.bnd fun v st1 e2 w ρ1 y H1 n1 s1 r1 => ?_⟩
        rw [hf] at w
        split at w
        · cases r1
          exact ⟨a, _, rfl, rfl, w ρ1 _ H1 n1 s1 ((er.mono n1).set (show RV (ky X xa) H1 F ρ1 _ (.d (.int _)) from .int _) i)⟩
        · exact w.elim
      · exact w.elim
    cases op <;> first
      | (simp at h3; done)
      | skip
    · exact PS.weak (ps_aug g.nd hi l1 S ip_add l2) (rdg (fun i j => i + j) fun a env v st => by unfold augTo; split <;> first | rfl | (split <;> simp_all))
    · exact PS.weak (ps_aug g.nd hi l1 S ip_sub l2) (rdg (fun i j => i - j) fun a env v st => by unfold augTo; split <;> first | rfl | (split <;> simp_all))
  · cases h
theorem own_nc {k : Ck} {a : E} {v : Expr} (h : ckE k (.own a) v = true) : noComp v = true := by
  unfold ckE at h
  have h := Bool.and_eq_true_iff.mp h
  cases a <;> first
    | (have q := h.1; simp [okOwn] at q; done)
    | (have q := h.2; cases v <;> first | rfl | (simp [ckE] at q; done))
theorem asg_fin {K : Ky} {g : G} {f : Envr → Sto → Res Vl} {D : Ends} {σ : L2.St} {H : Hp} (h : tS K W (fun env st => (f env st).bnd fun v st1 => match setG g v env with
    | some env' => .ok (.nx env') st1
    | none => .no) D σ H) : tAsg (tV K W f) (tGd K g) D σ H := by
  obtain ⟨ρ, F, st, env, s, er, w⟩ := h
  refine ⟨ρ, F, st, env, s, er, w.bnd fun v st1 e1 w ρ1 x H1 n1 s1 r1 => ?_⟩
  cases e2 : setG g v env with
  | none => rw [e2] at w; exact w.elim
  | some env' =>
    rw [e2] at w
    exact ⟨ρ1, F, st1, env, v, env', s1, er.mono n1, r1, e2, fun σ' H2 n2 s2 er' _ => w ρ1 σ' H2 (n1.trans n2) s2 er'⟩
theorem st_asg {st : Stmt} {gt : G} {e : E} (g : Gd cs cl kk k X W xa) (h : ckS k (.asg gt e) st = true) : PS X st (tS (ky X xa) W (evS cs cl L (.asg gt e))) := by
  unfold ckS at h
  split at h
  · rename_i t v pos
    simp only [Bool.and_eq_true, decide_eq_true_eq] at h
    obtain ⟨⟨⟨h1, h2⟩, h3⟩, h4⟩ := h
    have S := sndE e g _ h2
    have rdg : ∀ D σ H, tS (ky X xa) W (evS cs cl L (.asg gt e)) D σ H → tAsg (tV (ky X xa) W (evE cs cl e)) (tGd (ky X xa) gt) D σ H := fun D σ H w => by
      refine asg_fin ?_
      obtain ⟨ρ, F, st, env, s, er, w⟩ := w
      refine ⟨ρ, F, st, env, s, er, ?_⟩
      simp only [evS] at w
      exact w
    cases gt with
    | var i =>
      unfold ckG at h1
      split at h1
      · rename_i x px
        simp only [Bool.and_eq_true, decide_eq_true_eq] at h1
        obtain ⟨l1, l2⟩ := g.loc h1.2
        have hi : X.N[i]? = some x := by rw [g.hN]; exact h1.1
        have rd2 : ∀ D σ H, tS (ky X xa) W (evS cs cl L (.asg (.var i) e)) D σ H → tAsg (tV (ky X xa) W (evE cs cl e)) (gName i) D σ H := fun D σ H w => by
          obtain ⟨ρ, F, st, env, s, er, w⟩ := w
          simp only [evS, setG] at w
          refine ⟨ρ, F, st, env, s, er, w.bnd fun v st1 e1 w ρ1 x H1 n1 s1 r1 => ?_⟩
          exact w ρ1 _ H1 n1 s1 ((er.mono n1).set r1 i)
        cases hb : noComp v with
        | true => exact PS.weak (ps_set g.nd hi l1 S.pe (swNo hb _ _ _) l2) rd2
        | false =>
          cases v with
          | ListComp el gens scope p =>
            have sw : swapsWith (.ListComp el gens scope p) (some (.Name x px)) pos.line X.env = pure (X.env.blockKind == .function && X.env.kindOf x == some .local && px.line == p.line && !(scope.names.any fun (n, k) => n == x && (k == .local || k == .cell))) := rfl
            cases hq : (X.env.blockKind == .function && X.env.kindOf x == some .local && px.line == p.line && !(scope.names.any fun (n, k) => n == x && (k == .local || k == .cell))) with
            | false =>
              rw [hq] at sw
              exact PS.weak (ps_set g.nd hi l1 S.pe sw l2) rd2
            | true =>
              rw [hq] at sw
              simp only [Bool.and_eq_true] at hq
              cases e <;> first
                | (simp [ckE] at h2; done)
                | exact absurd (own_nc h2) (by simp [noComp])
                | skip
              rename_i elt gg it c own sto
              exact PS.weak ((snd_lc g (sndIt it g) (fun g' => sndE elt g') (fun g' => sndE c g') h2).2 i x px pos hi (eq_of_beq hq.1.1.2) sw) rd2
          | SetComp _ _ _ _ => cases e <;> first | (simp [ckE] at h2; done) | exact absurd (own_nc h2) (by simp [noComp])
          | DictComp _ _ _ _ _ => cases e <;> first | (simp [ckE] at h2; done) | exact absurd (own_nc h2) (by simp [noComp])
          | _ => simp [noComp] at hb
      · cases h1
    | tup gs =>
      have pg := sndG g (.tup gs) h1
      unfold ckG at h1
      split at h1
      · rename_i ts k2 p2
        have sole : swapsWithSole [.Tuple ts k2 p2] v pos.line X.env = pure false := by cases v <;> rfl
        have stores : swappedStores [.Tuple ts k2 p2] v X.env = pure none := by
          unfold swA at h3
          simp only at h3
          split at h3
          · simp only [Bool.and_eq_true, decide_eq_true_eq] at h3
            have hk : X.env.scope.kind = .function := by rw [g.sc]; exact h4
            exact swD_ok hk g.sc h3.2 h3.1
          · rename_i hv
            cases v <;> first | rfl | (exact absurd rfl (hv _ _ _))
        exact PS.weak (ps_asg S.pe pg sole stores rfl) rdg
      · cases h1
    | tupS si gs =>
      have pg := sndG g (.tupS si gs) h1
      unfold ckG at h1
      split at h1
      · rename_i ts k2 p2
        have sole : swapsWithSole [.Tuple ts k2 p2] v pos.line X.env = pure false := by cases v <;> rfl
        have stores : swappedStores [.Tuple ts k2 p2] v X.env = pure none := by
          unfold swA at h3
          simp only at h3
          split at h3
          · simp only [Bool.and_eq_true, decide_eq_true_eq] at h3
            have hk : X.env.scope.kind = .function := by rw [g.sc]; exact h4
            exact swD_ok hk g.sc h3.2 h3.1
          · rename_i hv
            cases v <;> first | rfl | (exact absurd rfl (hv _ _ _))
        exact PS.weak (ps_asg S.pe pg sole stores rfl) rdg
      · cases h1
  · cases h
end
end Ev
end
section
set_option maxRecDepth 10000
namespace Ev
open PySem PySem.Spec PyProof.Rows L2
section
variable {cs : List D} {cl : Nat → List Vl → Sto → Res Vl} {kk L : Nat} {k : Ck} {X : Cx} {W : WX} {xa : Option (Addr × Addr × Addr)}
/-! ### names from a display -/
def gPar : List Nat → TGs
  | [] => gNil
  | i :: is => gCons (gName i) (gPar is)
theorem pgs_par (g : Gd cs cl kk k X W xa) : ∀ {is : List Nat} {ts : List Expr}, ckPar k is ts = true → PGs X ts (gPar is) ∧ (assignEach ts X.env).length = is.length ∧ (assignEach ts X.env).findIdx? (·.1) = none
  | [], [], _ => ⟨pgs_nil, rfl, rfl⟩
  | _ :: _, [], h => by simp [ckPar] at h
  | [], _ :: _, h => by simp [ckPar] at h
  | i :: is, t :: ts, h => by
    simp only [ckPar, Bool.and_eq_true] at h
    obtain ⟨h1, h2⟩ := h
    obtain ⟨p1, p2, p3⟩ := pgs_par g h2
    split at h1
    · rename_i x p
      simp only [Bool.and_eq_true, decide_eq_true_eq] at h1
      obtain ⟨l1, l2⟩ := g.loc h1.2
      refine ⟨pgs_cons (pg_name g.nd (by rw [g.hN]; exact h1.1) l1 l2) p1 rfl, ?_, ?_⟩
      · show ((false, assign (.Name x p) X.env) :: assignEach ts X.env).length = _
        simp [p2]
      · show ((false, assign (.Name x p) X.env) :: assignEach ts X.env).findIdx? (·.1) = none
        simp [List.findIdx?_cons, p3]
    · cases h1
theorem par_set {K : Ky} {H : Hp} {F ρ : List Addr} {Q : L2.St → Hp → Prop} : ∀ {is : List Nat} {vs : List V} {xs : List Vl} {σ : L2.St} {env env' : Envr}, RVs K H F ρ vs xs → ER K H F ρ σ env → setPar is xs env = some env' → (∀ σ', ER K H F ρ σ' env' → Q σ' H) → gPar is vs σ H Q
  | [], _, _, σ, env, env', .nil, er, e, q => by
    unfold setPar at e
    cases e
    exact ⟨rfl, q σ er⟩
  | _ :: _, _, _, σ, env, env', .nil, er, e, q => by unfold setPar at e; cases e
  | [], _, _, σ, env, env', .cons _ _, er, e, q => by unfold setPar at e; cases e
  | i :: is, _, _, σ, env, env', .cons h r, er, e, q => by
    unfold setPar at e
    exact ⟨_, _, rfl, par_set r (er.set h i) e q⟩
theorem par_len : ∀ {is : List Nat} {xs : List Vl} {env env' : Envr}, setPar is xs env = some env' → xs.length = is.length
  | [], [], _, _, _ => rfl
  | _ :: _, [], _, _, e => by unfold setPar at e; cases e
  | [], _ :: _, _, _, e => by unfold setPar at e; cases e
  | _ :: is, _ :: xs, _, _, e => by
    unfold setPar at e
    simp [par_len e]
theorem evEs_len : ∀ {es : Es} {xs : List Expr} {env : Envr} {st st' : Sto} {vs : List Vl}, ckEs k es xs = true → evEs cs cl es env st = .ok vs st' → vs.length = xs.length
  | .nil, [], _, _, _, _, _, e => by simp only [evEs] at e; cases e; rfl
  | .nil, _ :: _, _, _, _, _, h, _ => by simp [ckEs] at h
  | .cons _ _, [], _, _, _, _, h, _ => by simp [ckEs] at h
  | .cons c r, x :: xs, env, st, st', vs, h, e => by
    simp only [ckEs, Bool.and_eq_true] at h
    simp only [evEs] at e
    cases e1 : evE cs cl c env st with
    | no => rw [e1] at e; cases e
    | ex c9 f9 s9 => rw [e1] at e; cases e
    | ok v st1 =>
      rw [e1, bnd_ok] at e
      cases e2 : evEs cs cl r env st1 with
      | no => rw [e2] at e; cases e
      | ex c9 f9 s9 => rw [e2] at e; cases e
      | ok ws st2 =>
        rw [e2, bnd_ok] at e
        cases e
        simp [evEs_len h.2 e2]
theorem len2 {α : Type} {l : List α} (h : l.length = 2) : ∃ a b, l = [a, b] := by
  match l, h with
  | [a, b], _ => exact ⟨a, b, rfl⟩
theorem len3 {α : Type} {l : List α} (h : l.length = 3) : ∃ a b c, l = [a, b, c] := by
  match l, h with
  | [a, b, c], _ => exact ⟨a, b, c, rfl⟩
theorem par1 {i : Nat} {is : List Nat} {t : Expr} {ts : List Expr} (h : ckPar k (i :: is) (t :: ts) = true) : ∃ x p, t = .Name x p ∧ k.N[i]? = some x ∧ ckPar k is ts = true := by
  simp only [ckPar, Bool.and_eq_true] at h
  obtain ⟨h1, h2⟩ := h
  split at h1
  · simp only [Bool.and_eq_true, decide_eq_true_eq] at h1
    exact ⟨_, _, rfl, h1.1, h2⟩
  · cases h1
theorem par2 {is : List Nat} {ts : List Expr} (h : ckPar k is ts = true) (hl : ts.length = 2) : ∃ i j x px y py, is = [i, j] ∧ ts = [.Name x px, .Name y py] ∧ k.N[i]? = some x ∧ k.N[j]? = some y := by
  obtain ⟨t1, t2, rfl⟩ := len2 hl
  cases is with
  | nil => simp [ckPar] at h
  | cons i is =>
    obtain ⟨x, px, rfl, e1, h⟩ := par1 h
    cases is with
    | nil => simp [ckPar] at h
    | cons j is =>
      obtain ⟨y, py, rfl, e2, h⟩ := par1 h
      cases is with
      | nil => exact ⟨i, j, x, px, y, py, rfl, rfl, e1, e2⟩
      | cons _ _ => simp [ckPar] at h
theorem par3 {is : List Nat} {ts : List Expr} (h : ckPar k is ts = true) (hl : ts.length = 3) : ∃ i j l x px y py z pz, is = [i, j, l] ∧ ts = [.Name x px, .Name y py, .Name z pz] ∧ k.N[i]? = some x ∧ k.N[j]? = some y ∧ k.N[l]? = some z := by
  obtain ⟨t1, t2, t3, rfl⟩ := len3 hl
  cases is with
  | nil => simp [ckPar] at h
  | cons i is =>
    obtain ⟨x, px, rfl, e1, h⟩ := par1 h
    cases is with
    | nil => simp [ckPar] at h
    | cons j is =>
      obtain ⟨y, py, rfl, e2, h⟩ := par1 h
      cases is with
      | nil => simp [ckPar] at h
      | cons l is =>
        obtain ⟨z, pz, rfl, e3, h⟩ := par1 h
        cases is with
        | nil => exact ⟨i, j, l, x, px, y, py, z, pz, rfl, rfl, e1, e2, e3⟩
        | cons _ _ => simp [ckPar] at h
theorem st_par {st : Stmt} {is : List Nat} {es : Es} (g : Gd cs cl kk k X W xa) (h : ckS k (.par is es) st = true) : PS X st (tS (ky X xa) W (evS cs cl L (.par is es))) := by
  unfold ckS at h
  split at h
  · rename_i ts k1 p1 vs k2 p2 pos
    simp only [Bool.and_eq_true, decide_eq_true_eq] at h
    obtain ⟨⟨⟨⟨⟨⟨⟨h0, h1⟩, h2⟩, h3⟩, h4⟩, h10⟩, h5⟩, h6⟩ := h
    simp only [Bool.not_eq_true'] at h0
    have A := (sndEs es g _ h2).a
    have hk : X.env.scope.kind = .function := by rw [g.sc]; exact h5
    obtain ⟨q1, q2, q3⟩ := pgs_par g h1
    have lens : ts.length = is.length := by
      have : ∀ {is : List Nat} {ts : List Expr}, ckPar k is ts = true → ts.length = is.length := by
        intro is
        induction is with
        | nil => intro ts z; cases ts with | nil => rfl | cons a b => simp [ckPar] at z
        | cons i is ih => intro ts z; cases ts with | nil => simp [ckPar] at z | cons a b => simp only [ckPar, Bool.and_eq_true] at z; simp [ih z.2]
      exact this h1
    -- what the parts give
    have rdg : ∀ (D : Ends) (σ : L2.St) (H : Hp), tS (ky X xa) W (evS cs cl L (.par is es)) D σ H → tVs (ky X xa) W (evEs cs cl es) σ H (fun us H1 => ∃ ρ1 F st1 env env' xs, SR X.K H1 ρ1 F st1 ∧ ER (ky X xa) H1 F ρ1 σ env ∧ RVs (ky X xa) H1 F ρ1 us xs ∧ setPar is xs env = some env' ∧ WnF (ky X xa) (fun c d => W c d σ) F ρ1 H1 (.ok (.nx env') st1) D) := by
      rintro D σ H ⟨ρ, F, st, env, s, er, w⟩
      simp only [evS] at w
      refine ⟨ρ, F, st, env, s, er, w.bnd fun xs st1 e1 w ρ1 us H1 n1 s1 r1 => ?_⟩
      cases e2 : setPar is xs env with
      | none => rw [e2] at w; exact w.elim
      | some env' =>
        rw [e2] at w
        exact ⟨ρ1, F, st1, env, env', xs, s1, er.mono n1, r1, e2, w.nx n1⟩
    have map : ∀ (D : Ends) (σ : L2.St) (H : Hp) (Q : List V → Hp → Prop), tVs (ky X xa) W (evEs cs cl es) σ H (fun us H1 => ∃ ρ1 F st1 env env' xs, SR X.K H1 ρ1 F st1 ∧ ER (ky X xa) H1 F ρ1 σ env ∧ RVs (ky X xa) H1 F ρ1 us xs ∧ setPar is xs env = some env' ∧ WnF (ky X xa) (fun c d => W c d σ) F ρ1 H1 (.ok (.nx env') st1) D) →
        (∀ us H1, (∃ ρ1 F st1 env env' xs, SR X.K H1 ρ1 F st1 ∧ ER (ky X xa) H1 F ρ1 σ env ∧ RVs (ky X xa) H1 F ρ1 us xs ∧ setPar is xs env = some env' ∧ WnF (ky X xa) (fun c d => W c d σ) F ρ1 H1 (.ok (.nx env') st1) D) → Q us H1) → tVs (ky X xa) W (evEs cs cl es) σ H Q := by
      rintro D σ H Q ⟨ρ, F, st, env, s, er, w⟩ f
      refine ⟨ρ, F, st, env, s, er, ?_⟩
      cases e : evEs cs cl es env st with
      | no => rw [e] at w; exact w.elim
      | ex c9 f9 s9 => rw [e] at w; exact w
      | ok v st1 => rw [e] at w; exact fun ρ' x H' n s' r => f x H' (w ρ' x H' n s' r)
    split at h6
    · -- stored from the right
      rename_i hsw
      have ss := swD_ok (k := k1) (k2 := k2) (p := p1) (p2 := p2) hk g.sc h3 hsw
      simp only [if_true] at ss
      simp only [Bool.and_eq_true, Bool.or_eq_true, decide_eq_true_eq] at h6
      obtain ⟨⟨h7, h8⟩, h9⟩ := h6
      rw [h8] at ss
      have loc : ∀ (x : Str) (p : Pos), Expr.Name x p ∈ ts → X.env.scope.names.lookup x = some .local := fun x p hm => by
        rw [g.sc]
        have := List.all_eq_true.mp h7 _ hm
        exact of_decide_eq_true this
      have hvl : vs.length = ts.length := by
        have hsw' := hsw
        unfold swD at hsw'
        split at hsw'
        · rename_i hc
          rw [Bool.and_eq_true] at hc
          exact eq_of_beq hc.2
        · cases hsw'
      rcases h9 with h9 | h9
      · obtain ⟨i, j, x, px, y, py, rfl, rfl, a1, a2⟩ := par2 h1 h9
        obtain ⟨v1, v2, rfl⟩ := len2 (hvl.trans h9)
        have hij : i ≠ j := by
          intro z
          rw [z] at h4
          simp at h4
        refine PS.weak (ps_par (g.calm h0) g.nd (by rw [g.hN]; exact a1) (by rw [g.hN]; exact a2) hij (loc x px (by simp)) (loc y py (by simp)) A.pa ss rfl) fun D σ H w => ?_
        refine map D σ H _ (rdg D σ H w) fun us H1 q => ?_
        obtain ⟨ρ1, F, st1, env, env', xs, s1, er, r, e, w⟩ := q
        have hl := par_len e
        obtain ⟨x1, x2, rfl⟩ := len2 hl
        cases r with
        | cons r1 r =>
          cases r with
          | cons r2 r =>
            cases r
            refine ⟨_, _, rfl, ?_⟩
            unfold setPar setPar setPar at e
            cases e
            exact w ρ1 _ H1 s1.refl s1 ((er.set r1 i).set r2 j)
      · obtain ⟨i, j, l, x, px, y, py, z, pz, rfl, rfl, a1, a2, a3⟩ := par3 h1 h9
        obtain ⟨v1, v2, v3, rfl⟩ := len3 (hvl.trans h9)
        have hij : i ≠ j ∧ i ≠ l ∧ j ≠ l := by
          simp at h4
          omega
        refine PS.weak (ps_par3 (g.calm h0) g.nd (by rw [g.hN]; exact a1) (by rw [g.hN]; exact a2) (by rw [g.hN]; exact a3) hij.1 hij.2.1 hij.2.2 (loc x px (by simp)) (loc y py (by simp)) (loc z pz (by simp)) A.pa ss rfl) fun D σ H w => ?_
        refine map D σ H _ (rdg D σ H w) fun us H1 q => ?_
        obtain ⟨ρ1, F, st1, env, env', xs, s1, er, r, e, w⟩ := q
        have hl := par_len e
        obtain ⟨x1, x2, x3, rfl⟩ := len3 hl
        cases r with
        | cons r1 r =>
          cases r with
          | cons r2 r =>
            cases r with
            | cons r3 r =>
              cases r
              refine ⟨_, _, _, rfl, ?_⟩
              unfold setPar setPar setPar setPar at e
              cases e
              exact w ρ1 _ H1 s1.refl s1 (((er.set r1 i).set r2 j).set r3 l)
    · -- by a tuple
      rename_i hsw
      have ss := swD_ok (k := k1) (k2 := k2) (p := p1) (p2 := p2) hk g.sc h3 hsw
      simp only [Bool.false_eq_true, if_false] at ss
      refine PS.weak (ps_asg (pe_tup A.pa) (pg_tup (g.calm h0) q1 q2 q3) rfl ss rfl) fun D σ H w => ?_
      refine map D σ H _ (rdg D σ H w) fun us H1 q => ?_
      obtain ⟨ρ1, F, st1, env, env', xs, s1, er, r, e, w⟩ := q
      have hl := par_len e
      have hz : us.length ≤ sizeLine := by
        rw [r.length, hl]
        exact Nat.le_of_lt (small1000 h10)
      refine ⟨hz, fun p hp => ⟨p, us, rfl, .inl (.inl upd_same), by rw [r.length]; exact hl, ?_⟩⟩
      have n1 := s1.nxNew (o := .tup us) hp
      exact par_set (r.mono n1) (er.mono n1) e fun σ' er' => w ρ1 σ' _ n1 (s1.new hp) er'
    · cases h6
  · cases h
/-! ### stores -/
theorem asgSub {o i : Expr} {pos : Pos} (h : noSlice i = true) (env : Env) : ∀ v, assign (.Subscript o i pos) env v = (do
      let ov ← holding [v] (eval o env)
      let iv ← holding [v, ov] (eval i env)
      standAt pos
      holding [v, ov, iv] (setItem ov iv v)
      release [v, ov, iv] []) := by
  intro v
  cases i <;> first | rfl | (simp [noSlice] at h; done)
theorem st_put {st : Stmt} {o i e : E} (g : Gd cs cl kk k X W xa) (h : ckS k (.put o i e) st = true) : PS X st (tS (ky X xa) W (evS cs cl L (.put o i e))) := by
  unfold ckS at h
  split at h
  · rename_i x y p v pos
    simp only [Bool.and_eq_true] at h
    obtain ⟨⟨⟨⟨h1, h2⟩, h3⟩, h4⟩, h5⟩ := h
    refine PS.weak (ps_asg (sndE e g _ h4).pe (pg_sub (sndE o g _ h1).pe (sndE i g _ h2).pe set_list (asgSub h3 X.env)) (show swapsWith v (some (.Subscript x y p)) pos.line X.env = pure false from swNo h5 _ _ _) (by rfl) (by rfl)) ?_
    rintro D σ H ⟨ρ, F, st, env, s, er, w⟩
    simp only [evS] at w
    refine ⟨ρ, F, st, env, s, er, w.bnd fun a st1 e1 w ρ1 va H1 n1 s1 r1 => ?_⟩
    refine ⟨ρ1, F, st1, env, s1, er.mono n1, w.bndN n1 fun b st2 e2 w ρ2 vb H2 n2 s2 r2 => ?_⟩
    refine ⟨ρ2, F, st2, env, s2, er.mono (n1.trans n2), w.bndN (n1.trans n2) fun c st3 e3 w ρ3 vc H3 n3 s3 r3 => ?_⟩
    cases a with
    | r _ => exact w.elim
    | x _ _ => exact w.elim
    | d x =>
      cases b with
      | d _ => exact w.elim
      | x _ _ => exact w.elim
      | r n =>
        cases c with
        | r _ => exact w.elim
        | x _ _ => exact w.elim
        | d kx =>
          simp only at w
          cases e4 : lputD st3 n kx x with
          | none => rw [e4] at w; exact w.elim
          | some st4 =>
            rw [e4] at w
            unfold lputD at e4
            split at e4
            · rename_i xs j e5
              split at e4
              · rename_i m e6
                cases e4
                cases r3
                obtain ⟨pa, ea, rfl⟩ := r2.mono n3
                obtain ⟨vs, hH, rr⟩ := s3.obj n _ pa e5 ea
                have nt := no_tup hH
                have hp : pa ∈ ρ3 := List.mem_of_getElem? ea
                have nx := s3.nxSet (o := .lst (vs.set m va)) hp nt
                refine ⟨pa, vs, j, m, rfl, rfl, hH, by rw [rr.length]; exact e6, ?_⟩
                refine w ρ3 _ _ (n1.trans (n2.trans (n3.trans nx))) (s3.setS ea nt ⟨_, upd_same, RpA.mono nx (rr.set (r1.mono (n2.trans n3)) m)⟩) (er.mono (n1.trans (n2.trans (n3.trans nx))))
              · cases e4
            · cases e4
  · cases h
theorem no_tupD {H : Hp} {p : Addr} {xs : List (Key × V)} (h : H p = some (.dK xs)) : ∀ ys, ¬ Rd H p (.tup ys) := fun ys z => by
  rcases z with z | ⟨o, z⟩ <;> (rw [h] at z; cases z)
theorem st_dput {st : Stmt} {o i e : E} (g : Gd cs cl kk k X W xa) (h : ckS k (.dput o i e) st = true) : PS X st (tS (ky X xa) W (evS cs cl L (.dput o i e))) := by
  have hu : X.A.units + 1 < cLine := by have := g.units; omega
  unfold ckS at h
  split at h
  · rename_i x y p v pos
    simp only [Bool.and_eq_true] at h
    obtain ⟨⟨⟨⟨h1, h2⟩, h3⟩, h4⟩, h5⟩ := h
    refine PS.weak (ps_dput hu (sndE o g _ h1).pe (sndE i g _ h2).pe (sndE e g _ h4).pe (swNo h5 _ _ _)) ?_
    rintro D σ H ⟨ρ, F, st, env, s, er, w⟩
    simp only [evS] at w
    refine ⟨ρ, F, st, env, s, er, w.bnd fun a st1 e1 w ρ1 va H1 n1 s1 r1 => ?_⟩
    refine ⟨ρ1, F, st1, env, s1, er.mono n1, w.bndN n1 fun b st2 e2 w ρ2 vb H2 n2 s2 r2 => ?_⟩
    refine ⟨ρ2, F, st2, env, s2, er.mono (n1.trans n2), w.bndN (n1.trans n2) fun c st3 e3 w ρ3 vc H3 n3 s3 r3 => ?_⟩
    cases a with
    | r _ => exact w.elim
    | x _ _ => exact w.elim
    | d x =>
      cases b with
      | d _ => exact w.elim
      | x _ _ => exact w.elim
      | r n =>
        cases c with
        | r _ => exact w.elim
        | x _ _ => exact w.elim
        | d kx =>
          simp only at w
          cases e4 : dputD st3 n kx x with
          | none => rw [e4] at w; exact w.elim
          | some st4 =>
            rw [e4] at w
            unfold dputD at e4
            split at e4
            · rename_i kvs e5
              split at e4
              · rename_i key e6
                split at e4
                · rename_i hz
                  cases e4
                  obtain ⟨pa, ea, rfl⟩ := r2.mono n3
                  obtain ⟨vs, hH, rr⟩ := s3.obj n _ pa e5 ea
                  have nt := no_tupD hH
                  have hp : pa ∈ ρ3 := List.mem_of_getElem? ea
                  have hkey : vc = kV key := by
                    cases kx <;> first | (cases e6; done) | (cases e6; cases r3; rfl)
                  subst hkey
                  have nx := s3.nxSet (o := .dK (putK vs key va)) hp nt
                  refine ⟨pa, _, rfl, DPut.k hH (by rw [rr.length]; exact hz), ?_⟩
                  refine w ρ3 _ _ (n1.trans (n2.trans (n3.trans nx))) (s3.setS ea nt ⟨_, upd_same, Kvs.mono nx (rr.put (Rp.mono (n2.trans n3) r1))⟩) (er.mono (n1.trans (n2.trans (n3.trans nx))))
                · cases e4
              · cases e4
            · cases e4
  · cases h
end
end Ev
end
section
set_option maxRecDepth 10000
namespace Ev
open PySem PySem.Spec PyProof.Rows L2
section
variable {cs : List D} {cl : Nat → List Vl → Sto → Res Vl} {kk L : Nat} {k : Ck} {X : Cx} {W : WX} {xa : Option (Addr × Addr × Addr)}
theorem st_ifs {st : Stmt} {c : E} {a b : Ss} (g : Gd cs cl kk k X W xa) (ha : ∀ xs, ckSs k a xs = true → PSs X xs (tS (ky X xa) W (evSs cs cl L a))) (hb : ∀ xs, ckSs k b xs = true → PSs X xs (tS (ky X xa) W (evSs cs cl L b))) (h : ckS k (.ifs c a b) st = true) : PS X st (tS (ky X xa) W (evS cs cl L (.ifs c a b))) := by
  unfold ckS at h
  split at h
  · simp only [Bool.and_eq_true] at h
    obtain ⟨⟨⟨h1, h2⟩, h3⟩, h4⟩ := h
    refine PS.weak (ps_if ((sndE c g _ h1).pt h2) (ha _ h3) (hb _ h4)) ?_
    rintro D σ H ⟨ρ, F, st, env, s, er, w⟩
    simp only [evS] at w
    refine ⟨ρ, F, st, env, s, er, w.tst fun v st1 e1 w => ?_⟩
    cases e2 : tru v st1 with
    | none => rw [e2] at w; exact w.elim
    | some t =>
      rw [e2] at w
      rw [tst_of e2]
      intro ρ1 b1 H1 n1 s1 r1
      cases r1
      cases t with
      | true => exact ⟨ρ1, F, st1, env, s1, er.mono n1, w.nx n1⟩
      | false => exact ⟨ρ1, F, st1, env, s1, er.mono n1, w.nx n1⟩
  · cases h
theorem WnF.sig {K : Ky} {F ρ : List Addr} {H : Hp} {r : Res Fl} {D : Ends} {σ σ' : L2.St} (hW : WI W) (h : WnF K (fun c d => W c d σ) F ρ H r D) : WnF K (fun c d => W c d σ') F ρ H r D := by
  cases r with
  | no => exact h.elim
  | ex c fs st => exact fun ρ' H' C d n s x y => hW _ _ _ _ _ (h ρ' H' C d n s x y)
  | ok fl st => cases fl <;> exact h
/-- what follows a turn of a loop -/
theorem turn_end {K : Ky} {Z : XK} {F ρ : List Addr} {H : Hp} {fl : Fl} {st1 : Sto} {D : Ends} {N : L2.St → Hp → Prop} {again : Envr → Sto → Res Fl} (w : WnF K Z F ρ H (match fl with
      | .nx env' => again env' st1
      | .ct env' => again env' st1
      | .bk env' => .ok (.nx env') st1
      | .ret v => .ok (.ret v) st1
      | .rtt vs => .ok (.rtt vs) st1) D) (hN : ∀ ρ' σ' H' env', Nx ρ H ρ' H' → SR K H' ρ' F st1 → ER K H' F ρ' σ' env' → WnF K Z F ρ' H' (again env' st1) D → N σ' H') :
    WnF K Z F ρ H (.ok fl st1) { D with nx := N, ct := N, bk := D.nx } := by
  cases fl with
  | nx env' => exact fun ρ' σ' H' n s er => hN ρ' σ' H' env' n s er (w.nx n)
  | ct env' => exact fun ρ' σ' H' n s er => hN ρ' σ' H' env' n s er (w.nx n)
  | bk env' => exact fun ρ' σ' H' n s er => w ρ' σ' H' n s er
  | ret v => exact fun ρ' x H' n s r => w ρ' x H' n s r
  | rtt v => exact fun ρ' x H' n s r => w ρ' x H' n s r
theorem st_whl {st : Stmt} {c : E} {b : Ss} (hW : WI W) (g : Gd cs cl kk k X W xa) (hb : ∀ xs, ckSs k b xs = true → PSs X xs (tS (ky X xa) W (evSs cs cl L b))) (h : ckS k (.whl c b) st = true) : PS X st (tS (ky X xa) W (evS cs cl L (.whl c b))) := by
  unfold ckS at h
  split at h
  · simp only [Bool.and_eq_true] at h
    obtain ⟨⟨h1, h2⟩, h3⟩ := h
    refine PS.weak (ps_while g.nopass ((sndE c g _ h1).pt h2) (hb _ h3)) ?_
    rintro D σ H ⟨ρ, F, st, env, s, er, w⟩
    simp only [evS] at w
    refine ⟨fun m σ' H' => ∃ ρ' st' env', SR X.K H' ρ' F st' ∧ ER (ky X xa) H' F ρ' σ' env' ∧ WnF (ky X xa) (fun c d => W c d σ) F ρ' H' (whl (fun env st => tst (evE cs cl c env st)) (fun env st => evSs cs cl L b env st) m env' st') D, ⟨L, ρ, st, env, s, er, w⟩, ?_⟩
    rintro m σ' H' ⟨ρ', st', env', s', er', w'⟩
    cases m with
    | zero => exact w'.elim
    | succ m =>
      unfold whl at w'
      refine ⟨ρ', F, st', env', s', er', (w'.sig hW).bnd fun t st1 e1 w' ρ1 b1 H1 n1 s1 r1 => ?_⟩
      cases r1
      cases t with
      | false =>
        rw [if_neg Bool.false_ne_true]
        exact w' ρ1 σ' H1 n1 s1 (er'.mono n1)
      | true =>
        rw [if_pos rfl]
        simp only at w'
        refine ⟨fun σ2 H2 => ∃ ρ2 st3 env2, SR X.K H2 ρ2 F st3 ∧ ER (ky X xa) H2 F ρ2 σ2 env2 ∧ WnF (ky X xa) (fun c d => W c d σ) F ρ2 H2 (whl (fun env st => tst (evE cs cl c env st)) (fun env st => evSs cs cl L b env st) m env2 st3) D, fun σ2 H2 z => ⟨m, Nat.lt_succ_self m, z⟩, ρ1, F, st1, env', s1, er'.mono n1, (w'.nx n1).bndF fun fl st2 e2 w' => ?_⟩
        exact turn_end (again := fun env st => whl (fun env st => tst (evE cs cl c env st)) (fun env st => evSs cs cl L b env st) m env st) w' fun ρ2 σ2 H2 env2 n2 s2 er2 w2 => ⟨ρ2, st2, env2, s2, er2, w2.sig hW⟩
  · cases h
def forTurn (cs : List D) (cl : Nat → List Vl → Sto → Res Vl) (L : Nat) (g : G) (b : Ss) (x : D) (env : Envr) (st : Sto) : Res Fl := match setG g (.d x) env with
  | some env' => evSs cs cl L b env' st
  | none => .no
theorem for_turn {K : Ky} {F ρ : List Addr} {H H' : Hp} {g : G} {b : Ss} {D : Ends} {σ σ0 : L2.St} {env : Envr} {st : Sto} {x : V} {d : PyData} (hW : WI W) (s : SR K H ρ F st) (er : ER K H F ρ σ env) (hx : Nw K ρ F H x d H')
    (w : WnF K (fun c d => W c d σ0) F ρ H (forTurn cs cl L g b d env st) D) : tGd K g x σ H' fun σ2 H2 => tS K W (evSs cs cl L b) D σ2 H2 := by
  obtain ⟨n1, s1, r1⟩ := hx _ s
  unfold forTurn at w
  cases e1 : setG g (.d d) env with
  | none => rw [e1] at w; exact w.elim
  | some env' =>
    rw [e1] at w
    exact ⟨ρ, F, st, env, .d d, env', s1, er.mono n1, r1, e1, fun σ2 H2 n2 s2 er2 _ => ⟨ρ, F, st, env', s2, er2, (w.nx (n1.trans n2)).sig hW⟩⟩
theorem st_forr {st : Stmt} {gt : G} {it : It} {b : Ss} (hW : WI W) (g : Gd cs cl kk k X W xa) (hb : ∀ xs, ckSs k b xs = true → PSs X xs (tS (ky X xa) W (evSs cs cl L b))) (h : ckS k (.forr gt it b) st = true) : PS X st (tS (ky X xa) W (evS cs cl L (.forr gt it b))) := by
  unfold ckS at h
  split at h
  · simp only [Bool.and_eq_true] at h
    obtain ⟨⟨⟨⟨⟨hk, h0⟩, h1⟩, h2⟩, h3⟩, h4⟩ := h
    simp only [Bool.not_eq_true'] at hk
    refine PS.weak (ps_for g.nopass (g.calm hk) (snd_it g (sndIt it g) h0 h2) (sndG g gt h1) (hb _ h4) (setPlain h3 X.env)) ?_
    rintro D σ H ⟨ρ, F, st, env, s, er, w⟩
    simp only [evS] at w
    refine ⟨ρ, F, st, env, s, er, w.bnd fun src st1 e1 w ρ1 J H1 n1 s1 hJ => ?_⟩
    have er1 := er.mono n1
    have w1 := w.nx n1
    have turn_eq : (fun (x : PyData) (env : Envr) (st : Sto) => match setG gt (.d x) env with
        | some env' => evSs cs cl L b env' st
        | none => (Res.no : Res Fl)) = forTurn cs cl L gt b := by
      funext x env st
      unfold forTurn
      cases setG gt (.d x) env <;> rfl
    cases src with
    | fix ds =>
      have w2 : WnF (ky X xa) (fun c d => W c d σ) F ρ1 H1 (forFix (forTurn cs cl L gt b) ds env st1) D := by
        rw [← turn_eq]
        exact w1
      have hJ : JFix X.K F J ρ1 H1 ds := hJ
      refine ⟨fun i m σ' H' => m = ds.length - i ∧ i ≤ ds.length ∧ ∃ ρ' st' env', Nx ρ1 H1 ρ' H' ∧ SR X.K H' ρ' F st' ∧ ER (ky X xa) H' F ρ' σ' env' ∧ WnF (ky X xa) (fun c d => W c d σ) F ρ' H' (forFix (forTurn cs cl L gt b) (ds.drop i) env' st') D, ⟨ds.length, by simp, Nat.zero_le _, ρ1, st1, env, s1.refl, s1, er1, by simpa using w2⟩, ?_⟩
      rintro i m σ' H' ⟨rfl, hi, ρ', st', env', n', s', er', w'⟩
      by_cases hlt : i < ds.length
      · refine .inr ⟨hJ.go ρ' H' i n' hlt, fun σ2 H2 => ∃ ρ2 st3 env2, Nx ρ1 H1 ρ2 H2 ∧ SR X.K H2 ρ2 F st3 ∧ ER (ky X xa) H2 F ρ2 σ2 env2 ∧ WnF (ky X xa) (fun c d => W c d σ) F ρ2 H2 (forFix (forTurn cs cl L gt b) (ds.drop (i + 1)) env2 st3) D, fun σ2 H2 z => ⟨ds.length - (i + 1), by omega, rfl, hlt, z⟩, fun x H2 y => ?_⟩
        have new1 := hJ.yld F ρ' H' i x H2 (fun a ha => .inl ha) n' y _ (List.getElem?_eq_getElem hlt)
        rw [List.drop_eq_getElem_cons hlt] at w'
        unfold forFix at w'
        refine for_turn hW s' er' new1 (w'.bndF fun fl st3 e3 w' => ?_)
        exact turn_end (again := fun env st => forFix (forTurn cs cl L gt b) (ds.drop (i + 1)) env st) w' fun ρ2 σ2 H2 env2 n2 s2 er2 w2 => ⟨ρ2, st3, env2, n'.trans n2, s2, er2, w2⟩
      · have e : i = ds.length := by omega
        subst e
        rw [List.drop_length] at w'
        unfold forFix at w'
        exact .inl ⟨hJ.stop ρ' H' n', w' ρ' σ' H' s'.refl s' er'⟩
    | obj n len =>
      have w2 : WnF (ky X xa) (fun c d => W c d σ) F ρ1 H1 (forObj (forTurn cs cl L gt b) n len len 0 env st1) D := by
        rw [← turn_eq]
        exact w1
      obtain ⟨a, ea, rfl⟩ := hJ
      have seen : ∀ {ρ' : List Addr} {H' : Hp} {st' : Sto} {ys : List PyData}, Nx ρ1 H1 ρ' H' → SR X.K H' ρ' F st' → st'[n]? = some (.lst ys) → ∃ vs, H' a = some (.lst vs) ∧ RpA X.K H' (ρ' ++ F) vs ys := fun {ρ' H' st' ys} nx s e => by
        have ea' : ρ'[n]? = some a := by
          obtain ⟨m, em, _⟩ := nx.ext
          rw [em, List.getElem?_append_left (List.getElem?_eq_some_iff.mp ea).1]
          exact ea
        exact s.obj n _ a e ea'
      refine ⟨fun i m σ' H' => i + m = len ∧ ∃ ρ' st' env', Nx ρ1 H1 ρ' H' ∧ SR X.K H' ρ' F st' ∧ ER (ky X xa) H' F ρ' σ' env' ∧ WnF (ky X xa) (fun c d => W c d σ) F ρ' H' (forObj (forTurn cs cl L gt b) n len m i env' st') D, ⟨len, by omega, ρ1, st1, env, s1.refl, s1, er1, w2⟩, ?_⟩
      rintro i m σ' H' ⟨hm, ρ', st', env', n', s', er', w'⟩
      cases m with
      | zero =>
        unfold forObj at w'
        split at w'
        · rename_i hz
          rw [Bool.and_eq_true] at hz
          have hz1 := hz.1
          unfold stillAt at hz1
          split at hz1
          · rename_i ys e5
            obtain ⟨vs, q1, q2⟩ := seen n' s' e5
            refine .inl ⟨⟨vs, .inl (.inl q1), ?_⟩, w' ρ' σ' H' s'.refl s' er'⟩
            rw [q2.length, eq_of_beq hz1]
            omega
          · cases hz1
        · exact w'.elim
      | succ m =>
        unfold forObj at w'
        cases e5 : itemAt n len i st' with
        | none => rw [e5] at w'; exact w'.elim
        | some d =>
          rw [e5] at w'
          simp only at w'
          unfold itemAt at e5
          split at e5
          · rename_i ys e6
            split at e5
            · obtain ⟨vs, q1, q2⟩ := seen n' s' e6
              obtain ⟨v, q3, q4⟩ := q2.get e5
              refine .inr ⟨⟨vs, v, .inl (.inl q1), q3⟩, fun σ2 H2 => ∃ ρ2 st3 env2, Nx ρ1 H1 ρ2 H2 ∧ SR X.K H2 ρ2 F st3 ∧ ER (ky X xa) H2 F ρ2 σ2 env2 ∧ WnF (ky X xa) (fun c d => W c d σ) F ρ2 H2 (forObj (forTurn cs cl L gt b) n len m (i + 1) env2 st3) D, fun σ2 H2 hq => ⟨m, by omega, by omega, hq⟩, fun x H2 y => ?_⟩
              obtain ⟨rfl, y⟩ := y
              have hx : x = v := by
                have z := y vs (.inl (.inl q1))
                rw [q3] at z
                exact (Option.some.inj z).symm
              subst hx
              refine for_turn hW s' er' (New.nw (.old q4)) (w'.bndF fun fl st3 e3 w' => ?_)
              exact turn_end (again := fun env st => forObj (forTurn cs cl L gt b) n len m (i + 1) env st) w' fun ρ2 σ2 H2 env2 n2 s2 er2 w2 => ⟨ρ2, st3, env2, n'.trans n2, s2, er2, w2⟩
            · cases e5
          · cases e5
  · cases h
theorem st_pass {st : Stmt} (h : ckS k .pass st = true) : PS X st (tS (ky X xa) W (evS cs cl L .pass)) := by
  unfold ckS at h
  split at h
  · refine PS.weak ps_pass ?_
    rintro D σ H ⟨ρ, F, st, env, s, er, w⟩
    exact w ρ σ H s.refl s er
  · cases h
theorem st_brk {st : Stmt} (h : ckS k .brk st = true) : PS X st (tS (ky X xa) W (evS cs cl L .brk)) := by
  unfold ckS at h
  split at h
  · refine PS.weak ps_break ?_
    rintro D σ H ⟨ρ, F, st, env, s, er, w⟩
    exact w ρ σ H s.refl s er
  · cases h
theorem st_cnt {st : Stmt} (h : ckS k .cnt st = true) : PS X st (tS (ky X xa) W (evS cs cl L .cnt)) := by
  unfold ckS at h
  split at h
  · refine PS.weak ps_continue ?_
    rintro D σ H ⟨ρ, F, st, env, s, er, w⟩
    exact w ρ σ H s.refl s er
  · cases h
/-! ### raise -/
theorem lk_zip : ∀ {fs : List Str} {ds : List D} {f : Str} {x : D}, (fs.zip ds).lookup f = some x → ∃ i : Nat, fs[i]? = some f ∧ ds[i]? = some x
  | [], _, _, _, h => by simp at h
  | _ :: _, [], _, _, h => by simp at h
  | g :: fs, d :: ds, f, x, h => by
    simp only [List.zip_cons_cons, List.lookup_cons] at h
    split at h
    · rename_i e
      cases h
      exact ⟨0, by simp [eq_of_beq e], rfl⟩
    · obtain ⟨i, h1, h2⟩ := lk_zip h
      exact ⟨i + 1, by simpa using h1, by simpa using h2⟩
theorem lk_none : ∀ {fs : List Str} {vs : List V} {f : Str}, f ∉ fs → ((fs.zip vs).reverse).lookup f = none
  | [], _, _, _ => by simp
  | _ :: _, [], _, _ => by simp
  | g :: fs, v :: vs, f, h => by
    simp only [List.mem_cons, not_or] at h
    have z : (f == g) = false := by simpa using h.1
    rw [List.zip_cons_cons, List.reverse_cons, List.lookup_append, lk_none h.2]
    simp [List.lookup_cons, z]
theorem lk_rev : ∀ {fs : List Str} {vs : List V} {f : Str} {v : V} {i : Nat}, fs.Nodup → fs[i]? = some f → vs[i]? = some v → ((fs.zip vs).reverse).lookup f = some v
  | [], _, _, _, _, _, h, _ => by simp at h
  | _ :: _, [], _, _, _, _, _, h => by simp at h
  | g :: fs, u :: vs, f, v, 0, nd, h1, h2 => by
    simp only [List.getElem?_cons_zero, Option.some.injEq] at h1 h2
    subst h1 h2
    rw [List.zip_cons_cons, List.reverse_cons, List.lookup_append, lk_none (List.nodup_cons.mp nd).1]
    simp
  | g :: fs, u :: vs, f, v, i + 1, nd, h1, h2 => by
    simp only [List.getElem?_cons_succ] at h1 h2
    rw [List.zip_cons_cons, List.reverse_cons, List.lookup_append, lk_rev (List.nodup_cons.mp nd).2 h1 h2]
    rfl
theorem st_rais {st : Stmt} {c : Str} {fs : List Str} {es : Es} (g : Gd cs cl kk k X W xa) (h : ckS k (.rais c fs es) st = true) : PS X st (tS (ky X xa) W (evS cs cl L (.rais c fs es))) := by
  unfold ckS at h
  split at h
  · rename_i x p a args pos pos2
    simp only [Bool.and_eq_true, decide_eq_true_eq, Bool.not_eq_true'] at h
    obtain ⟨⟨⟨⟨hk, rfl⟩, h2⟩, h3⟩, h4⟩ := h
    obtain ⟨g1, g2, g3⟩ := g.gl h2
    have A := (sndEs es g _ h4).a
    have ns := A.ns
    simp only [List.all_cons, Bool.and_eq_true] at ns
    obtain ⟨C, B, nw, ini, fI, fd, ps, xc, m, T, iC, tI, F1, hb, few, nd⟩ := g.xt.made _ _ h3
    refine PS.weak (L2N.ps_raise (g.calm hk) g.tk (pmk_x T iC tI F1 (by omega) ((g.room hk).mono g.two) hb g1 m g2 A.pa (star1 ns.1 args X.env) (noStars ns.2 X.env pos))) ?_
    rintro D σ H ⟨ρ, F, st, env, s, er, w⟩
    simp only [evS] at w
    refine ⟨ρ, F, st, env, s, er, w.bnd fun xs st1 e1 w ρ1 vs H1 n1 s1 r1 => ?_⟩
    unfold raisD at w
    cases e2 : dAll xs with
    | none => rw [e2] at w; exact w.elim
    | some ds =>
      rw [e2] at w
      simp only at w
      split at w
      · rename_i hl
        have rr := RVs.dAll r1 e2
        refine ⟨by rw [rr.length, hl], fun p hp => ?_⟩
        have n2 := s1.nxNew (o := .xd (fs.zip vs).reverse) hp
        refine w ρ1 _ C p (n1.trans n2) (s1.new hp) xc ⟨s1.freshF hp, _, upd_same, fun f y e => ?_⟩
        obtain ⟨i, i1, i2⟩ := lk_zip e
        obtain ⟨v, i3, i4⟩ := rr.get i2
        exact ⟨v, lk_rev nd i1 i3, Rp.mono n2 i4⟩
      · exact w.elim
  · cases h
/-! ### try -/
theorem RV.chg {K : PySem.W.Frag} {xa : Option (Addr × Addr × Addr)} {H : Hp} {F ρ : List Addr} {v : V} : ∀ {x : Vl}, RV ⟨K, none⟩ H F ρ v x → RV ⟨K, xa⟩ H F ρ v x
  | .d _, h => h
  | .r _, h => h
  | .x _ _, ⟨_, _, _, h, _⟩ => by cases h
theorem ER.chg {K : PySem.W.Frag} {xa : Option (Addr × Addr × Addr)} {H : Hp} {F ρ : List Addr} : ∀ {vs : L2.St} {xs : Envr}, ER ⟨K, none⟩ H F ρ vs xs → ER ⟨K, xa⟩ H F ρ vs xs
  | _, _, .nil => .nil
  | _, _, .val h r => .val h.chg r.chg
  | _, _, .gap r => .gap r.chg
theorem ER.back {K : PySem.W.Frag} {xa : Option (Addr × Addr × Addr)} {H : Hp} {F ρ : List Addr} : ∀ {vs : L2.St} {xs : Envr}, noXE xs = true → ER ⟨K, xa⟩ H F ρ vs xs → ER ⟨K, none⟩ H F ρ vs xs
  | _, _, _, .nil => .nil
  | _, some (.d y) :: _, h, .val q r => .val (show RV ⟨K, none⟩ H F ρ _ (.d y) from q) (ER.back h r)
  | _, some (.r y) :: _, h, .val q r => .val (show RV ⟨K, none⟩ H F ρ _ (.r y) from q) (ER.back h r)
  | _, some (.x _ _) :: _, h, .val _ _ => by simp [noXE] at h
  | _, none :: _, h, .gap r => .gap (ER.back h r)
theorem NmV.one {mg : Str → Option Value} {n : Str} {v v' : V} {cv cv' : Value} (a : NmV mg n v cv) (b : NmV mg n v' cv') : cv = cv' := by
  rcases a with ⟨A, m, _, rfl⟩ | ⟨s, m, t, _, rfl⟩ <;> rcases b with ⟨A', m', _, rfl⟩ | ⟨s', m', t', _, rfl⟩
  · rw [m] at m'; exact Option.some.inj m'
  · rw [m] at m'; cases m'
  · rw [m] at m'; cases m'
  · rw [t] at t'; exact Option.some.inj t'
theorem nm_names {n : Str} {v : V} {cv : Value} (g : Gd cs cl kk k X W xa) (hg : glB k.sc n = true) (h : NmV X.mg n v cv) : Names X n cv := by
  obtain ⟨g1, g2, g3⟩ := g.gl hg
  rcases h with ⟨A, m, _, rfl⟩ | ⟨s, m, t, _, rfl⟩
  · exact ⟨g1, g2, .inl m⟩
  · exact ⟨g1, g2, .inr ⟨m, t, g3⟩⟩
theorem xs_vals {c : Str} {C : Addr} (T : XT X.prog X.w X.K X.mg X.base cs k.XN k.FL k.CL) (xc : XC X.K c C) : ∀ {ns : List Str} {b : Bool} {cvs : List Value}, xsubs cs c ns = some b → All2 (fun n cv => ∃ v, NmV X.mg n v cv) ns cvs → PySem.W.exmAny X.K (.ref C) cvs = some b
  | [], b, _, h, .nil => by cases h; rfl
  | n :: ns, b, _, h, .cons ⟨v, hv⟩ r => by
    unfold xsubs at h
    cases e1 : xsub cs c n with
    | none => rw [e1] at h; cases h
    | some b1 =>
      cases e2 : xsubs cs c ns with
      | none => rw [e1, e2] at h; cases h
      | some b2 =>
        rw [e1, e2] at h
        cases h
        obtain ⟨v', cv', h1, h2, h3⟩ := T.is c n b1 C e1 xc
        have e := NmV.one hv h1
        subst e
        unfold PySem.W.exmAny
        rw [h3, xs_vals T xc e2 r]
/-- the clauses -/
inductive HdsC (X : Cx) (cs : List D) (cl : Nat → List Vl → Sto → Res Vl) (L : Nat) : Hs → List HdR → Prop
  | nil : HdsC X cs cl L .nil []
  | cons {ns : List Str} {i : Option Nat} {b : Ss} {r : Hs} {cvs : List Value} {l : List HdR} : All2 (fun n cv => ∃ v, NmV X.mg n v cv) ns cvs → HdsC X cs cl L r l →
      HdsC X cs cl L (.cons ns i b r) ((cvs, i, fun a cls d D σ H => ∃ C dd, cls = .ref C ∧ d = some dd ∧ tS ⟨X.K, some (a, C, dd)⟩ W0 (evSs cs cl L b) D σ H) :: l)
theorem try_rd (g : Gd cs cl kk k X W none) {F ρ : List Addr} {H : Hp} {D : Ends} {σ : L2.St} {env : Envr} {c : Str} {fs : List (Str × PyData)} {st1 : Sto} (er : ER ⟨X.K, none⟩ H F ρ σ env) : ∀ {hs : Hs} {l : List HdR}, HdsC X cs cl L hs l → WnF ⟨X.K, none⟩ (fun c d => W c d σ) F ρ H (evHs cs cl L hs c fs env st1) D →
    ∀ ρ1 H1 C d, Nx ρ H ρ1 H1 → SR X.K H1 ρ1 F st1 → XC X.K c C → XF X.K H1 (ρ1 ++ F) d fs → wX X.K W D l (.ref C) (some d) σ H1 := by
  intro hs l hl
  induction hl with
  | nil =>
    intro w ρ1 H1 C d n1 s1 xc xf
    simp only [evHs] at w
    exact w ρ1 H1 C d n1 s1 xc xf
  | @cons ns i b r cvs l hv hr ih =>
    intro w ρ1 H1 C d n1 s1 xc xf
    simp only [evHs] at w
    cases e : xsubs cs c ns with
    | none => rw [e] at w; exact w.elim
    | some bb =>
      rw [e] at w
      refine ⟨bb, xs_vals (k := k) g.xt xc e hv, fun hb a ha => ?_, fun hb => ?_⟩
      · subst hb
        simp only at w
        obtain ⟨fl, st2, e2, w⟩ := w.inv
        have er1 : ER ⟨X.K, some (a, C, d)⟩ H1 F ρ1 (namedS σ a i) (namedE i c fs env) := by
          have q : ER ⟨X.K, some (a, C, d)⟩ H1 F ρ1 σ env := (er.mono n1).chg
          cases i with
          | none => exact q
          | some i => exact ER.set (K := ⟨X.K, some (a, C, d)⟩) (v := .ref a) (x := .x c fs) (show RV ⟨X.K, some (a, C, d)⟩ H1 F ρ1 (.ref a) (.x c fs) from ⟨a, C, d, rfl, rfl, xc, xf⟩) i q
        refine ⟨C, d, rfl, rfl, ρ1, F, st1, namedE i c fs env, s1, er1, ?_⟩
        rw [e2]
        unfold finH at w
        split at w
        · rename_i hx
          have w := w.nx n1
          cases i with
          | none =>
            cases fl with
            | nx env' => exact fun ρ2 σ2 H2 n2 s2 er2 => w ρ2 σ2 H2 n2 s2 (er2.back hx)
            | bk env' => exact fun ρ2 σ2 H2 n2 s2 er2 => w ρ2 σ2 H2 n2 s2 (er2.back hx)
            | ct env' => exact fun ρ2 σ2 H2 n2 s2 er2 => w ρ2 σ2 H2 n2 s2 (er2.back hx)
            | ret v =>
              cases v with
              | d y => exact fun ρ2 x H2 n2 s2 r2 => w ρ2 x H2 n2 s2 r2
              | r y => exact fun ρ2 x H2 n2 s2 r2 => w ρ2 x H2 n2 s2 r2
              | x _ _ => simp [goneF, noXF] at hx
            | rtt v => simp [goneF, noXF] at hx
          | some i =>
            cases fl with
            | nx env' => exact fun ρ2 σ2 H2 n2 s2 er2 => w ρ2 _ H2 n2 s2 ((er2.unset i).back hx)
            | bk env' => exact fun ρ2 σ2 H2 n2 s2 er2 => w ρ2 _ H2 n2 s2 ((er2.unset i).back hx)
            | ct env' => exact fun ρ2 σ2 H2 n2 s2 er2 => w ρ2 _ H2 n2 s2 ((er2.unset i).back hx)
            | ret v =>
              cases v with
              | d y => exact fun ρ2 x H2 n2 s2 r2 => w ρ2 x H2 n2 s2 r2
              | r y => exact fun ρ2 x H2 n2 s2 r2 => w ρ2 x H2 n2 s2 r2
              | x _ _ => simp [goneF, noXF] at hx
            | rtt v => simp [goneF, noXF] at hx
        · exact w.elim
      · subst hb
        simp only at w
        exact ih w ρ1 H1 C d n1 s1 xc xf
theorem gd_tr (g : Gd cs cl kk k X W xa) (hk : k.hot = false) {W' : WX} {pn : List (Addr × Obj)} {xe : Value → Shared → Prop} (tk : L2N.Takes (X.tr pn xe) W') (ps : PassesOwn (model X.prog X.w) X.A X.env xe) : Gd cs cl kk k (X.tr pn xe) W' xa :=
  ⟨g.hN, g.nd, g.sc, g.fn, g.calm, g.guards, g.room, g.roomH, tk, ps, g.xn, fun a C d z => (by rw [g.xn hk] at z; cases z), g.xs, g.fnh, g.fns, g.kfs, g.two, g.xt, g.blt, g.cst⟩
theorem gd_suite (g : Gd cs cl kk k X W xa) {a C d : Addr} {oe : Obj} {pn : List (Addr × Obj)} (hz : L2N.Zn (.ref C) (some d) oe) (hd : ∃ vs, oe.data = .fields vs) : Gd cs cl kk { k with hot := true } (X.suite a ((a, oe) :: pn)) W0 (some (a, C, d)) :=
  ⟨g.hN, g.nd, g.sc, g.fn, fun z => (by cases z), g.guards, fun z => (by cases z), ⟨g.roomH.dp, g.roomH.un⟩, takes0, PassesOwn.never, fun z => (by cases z), fun a' C' d' z => (by
    cases z
    obtain ⟨vs, hv⟩ := hd
    exact ⟨oe, List.mem_cons_self, ⟨rfl, vs, hv, hz.2.2 vs hv⟩, hz.1, hz.2.1⟩), fun _ => ⟨_, _, _, rfl⟩, g.fnh, g.fns, g.kfs, g.two, g.xt, g.blt, g.cst⟩
theorem sndSimp (g : Gd cs cl kk k X W xa) : ∀ (c : S) (st : Stmt), simpS c = true → ckS k c st = true → PS X st (tS (ky X xa) W (evS cs cl L c))
  | .expr e, st, _, h => st_expr g h
  | .asg gt e, st, _, h => st_asg g h
  | .ret e, st, _, h => st_ret g h
  | .par _ _, _, z, _ => by cases z
  | .put _ _ _, _, z, _ => by cases z
  | .dput _ _ _, _, z, _ => by cases z
  | .ifs _ _ _, _, z, _ => by cases z
  | .whl _ _, _, z, _ => by cases z
  | .forr _ _ _, _, z, _ => by cases z
  | .pass, _, z, _ => by cases z
  | .brk, _, z, _ => by cases z
  | .cnt, _, z, _ => by cases z
  | .rais _ _ _, _, z, _ => by cases z
  | .aug _ _ _, _, z, _ => by cases z
  | .rett _, _, z, _ => by cases z
  | .tryx _ _, _, z, _ => by cases z
theorem hd_test (g : Gd cs cl kk k X W xa) {ns : List Str} {t : Expr} (h : clsT2 k.sc ns t = true) (hn : ns.all (fun n => decide (n ∈ k.CL)) = true) : ∃ cvs, TestX X t cvs ∧ All2 (fun n cv => ∃ v, NmV X.mg n v cv) ns cvs := by
  unfold clsT2 at h
  split at h
  · simp only [Bool.and_eq_true, decide_eq_true_eq] at h
    obtain ⟨rfl, h1⟩ := h
    simp only [List.all_cons, List.all_nil, Bool.and_true, decide_eq_true_eq] at hn
    obtain ⟨v, cv, hv⟩ := g.xt.nm _ hn
    exact ⟨[cv], .one (nm_names g h1 hv), .cons ⟨v, hv⟩ .nil⟩
  · simp only [Bool.and_eq_true, decide_eq_true_eq] at h
    obtain ⟨⟨rfl, h1⟩, h2⟩ := h
    simp only [List.all_cons, List.all_nil, Bool.and_true, Bool.and_eq_true, decide_eq_true_eq] at hn
    obtain ⟨v, cv, hv⟩ := g.xt.nm _ hn.1
    obtain ⟨v2, cv2, hv2⟩ := g.xt.nm _ hn.2
    exact ⟨[cv, cv2], .two (nm_names g h1 hv) (nm_names g h2 hv2), .cons ⟨v, hv⟩ (.cons ⟨v2, hv2⟩ .nil)⟩
  · cases h
theorem st_tryx {st : Stmt} {b : S} {hs : Hs} (g : Gd cs cl kk k X W xa) (hstk : X.stack = X.env :: X.outer) (hfr : X.env.frame = some X.env.locals) (hh : ∀ hds, ckHs k hs hds = true → ∃ l, HdsX X hds l ∧ HdsC X cs cl L hs l) (h : ckS k (.tryx b hs) st = true) : PS X st (tS (ky X xa) W (evS cs cl L (.tryx b hs))) := by
  unfold ckS at h
  split at h
  · rename_i x h0 hds pos
    simp only [Bool.and_eq_true, Bool.not_eq_true'] at h
    obtain ⟨⟨⟨hk, h1⟩, h2⟩, h3⟩ := h
    obtain ⟨l, HX, HC⟩ := hh _ h3
    have xn := g.xn hk
    subst xn
    refine PS.weak (ps_try_x (tb := fun W' D σ H => tS (ky X none) W' (evS cs cl L b) D σ H) hstk hfr g.nd g.tk (fun W' pn xe tk ps => ?_) HX) ?_
    · exact PSs.weak (pss_cons (sndSimp (L := L) (gd_tr g hk tk ps) b x h1 h2) pss_nil) fun D σ H w => w
    · rintro D σ H ⟨ρ, F, st, env, s, er, w⟩
      refine ⟨ρ, F, st, env, s, er, ?_⟩
      simp only [evS] at w
      cases e : evS cs cl L b env st with
      | no => rw [e] at w; exact w.elim
      | ok fl st1 =>
        rw [e] at w
        have w2 : WnF (ky X none) (fun c d => W c d σ) F ρ H (.ok fl st1) D := w
        cases fl <;> exact w2
      | ex c fs st1 =>
        rw [e] at w
        exact try_rd g er HC w
  · cases h
mutual
theorem sndS {k : Ck} {X : Cx} {W : WX} {xa : Option (Addr × Addr × Addr)} (g : Gd cs cl kk k X W xa) (hW : WI W) (hstk : X.stack = X.env :: X.outer) (hfr : X.env.frame = some X.env.locals) : ∀ (c : S) (st : Stmt), ckS k c st = true → PS X st (tS (ky X xa) W (evS cs cl L c))
  | .expr e, st, h => st_expr g h
  | .asg gt e, st, h => st_asg g h
  | .par is es, st, h => st_par g h
  | .put o i e, st, h => st_put g h
  | .dput o i e, st, h => st_dput g h
  | .ifs c a b, st, h => st_ifs g (sndSs g hW hstk hfr a) (sndSs g hW hstk hfr b) h
  | .whl c b, st, h => st_whl hW g (sndSs g hW hstk hfr b) h
  | .forr gt it b, st, h => st_forr hW g (sndSs g hW hstk hfr b) h
  | .ret e, st, h => st_ret g h
  | .pass, st, h => st_pass h
  | .brk, st, h => st_brk h
  | .cnt, st, h => st_cnt h
  | .rais c fs es, st, h => st_rais g h
  | .aug i op e, st, h => st_aug g h
  | .rett es, st, h => st_rett g h
  | .tryx b hs, st, h => st_tryx g hstk hfr (sndHs g hstk hfr hs) h
theorem sndSs {k : Ck} {X : Cx} {W : WX} {xa : Option (Addr × Addr × Addr)} (g : Gd cs cl kk k X W xa) (hW : WI W) (hstk : X.stack = X.env :: X.outer) (hfr : X.env.frame = some X.env.locals) : ∀ (c : Ss) (sts : List Stmt), ckSs k c sts = true → PSs X sts (tS (ky X xa) W (evSs cs cl L c))
  | .nil, [], _ => by
    refine PSs.weak pss_nil ?_
    rintro D σ H ⟨ρ, F, st, env, s, er, w⟩
    exact w ρ σ H s.refl s er
  | .nil, _ :: _, h => by simp [ckSs] at h
  | .cons _ _, [], h => by simp [ckSs] at h
  | .cons c r, x :: xs, h => by
    simp only [ckSs, Bool.and_eq_true] at h
    refine PSs.weak (pss_cons (sndS g hW hstk hfr c x h.1) (sndSs g hW hstk hfr r xs h.2)) ?_
    rintro D σ H ⟨ρ, F, st, env, s, er, w⟩
    simp only [evSs] at w
    refine ⟨ρ, F, st, env, s, er, w.bndF fun fl st1 e1 w => ?_⟩
    cases fl with
    | nx env' => exact fun ρ' σ' H' n' s' er' => ⟨ρ', F, st1, env', s', er', (w.nx n').sig hW⟩
    | ret v => exact w
    | rtt v => exact w
    | bk env' => exact w
    | ct env' => exact w
theorem sndHs {k : Ck} {X : Cx} {W : WX} {xa : Option (Addr × Addr × Addr)} (g : Gd cs cl kk k X W xa) (hstk : X.stack = X.env :: X.outer) (hfr : X.env.frame = some X.env.locals) : ∀ (hs : Hs) (hds : List ExceptHandler), ckHs k hs hds = true → ∃ l, HdsX X hds l ∧ HdsC X cs cl L hs l
  | .nil, [], _ => ⟨[], .nil, .nil⟩
  | .nil, _ :: _, h => by simp [ckHs] at h
  | .cons _ _ _ _, [], h => by simp [ckHs] at h
  | .cons ns i b r, hd :: hds, h => by
    simp only [ckHs, Bool.and_eq_true] at h
    obtain ⟨h0, h5⟩ := h
    obtain ⟨l, q1, q2⟩ := sndHs g hstk hfr r hds h5
    split at h0
    · rename_i t nm b0 su pos
      simp only [Bool.and_eq_true] at h0
      obtain ⟨⟨⟨h1, h2⟩, h3⟩, h4⟩ := h0
      obtain ⟨cvs, t1, t2⟩ := hd_test g h1 h2
      have su_ok : ∀ (a : Addr) (oe : Obj) (cls : Value) (d : Option Addr) (pn : List (Addr × Obj)), L2N.Zn cls d oe → (∃ vs, oe.data = .fields vs) → PSs (X.suite a ((a, oe) :: pn)) (b0 :: su) (fun D σ H => ∃ C dd, cls = .ref C ∧ d = some dd ∧ tS ⟨X.K, some (a, C, dd)⟩ W0 (evSs cs cl L b) D σ H) := by
        intro a oe cls d pn hz hd
        refine ⟨fun pins s σ H D I w => ?_⟩
        obtain ⟨C, dd, rfl, rfl, w⟩ := w
        exact (sndSs (gd_suite g hz hd) (fun _ _ _ _ _ h => h) hstk hfr b (b0 :: su) h4).run pins s σ H D I w
      unfold ckNm at h3
      split at h3
      · exact ⟨_, .anon t1 su_ok q1, .cons t2 q2⟩
      · rename_i i n
        simp only [Bool.and_eq_true, decide_eq_true_eq] at h3
        exact ⟨_, .named t1 (by rw [g.hN]; exact h3.1) (show X.env.scope.names.lookup n = some .local by rw [g.sc]; exact h3.2) su_ok q1, .cons t2 q2⟩
      · cases h3
    · cases h0
end
end
end Ev
end
section
set_option maxRecDepth 10000
namespace Ev
open PySem PySem.Spec PyProof.Rows L2
section
variable {P : Program} {w : World} {K : PySem.W.Frag} {mg : Str → Option Value} {base : Heap}
/-- a def by its body, where no guard stands -/
theorem fnG_of {x qual : Str} {params : Arguments} {body : List Stmt} {scope : Scope} {dvs : List V} {kws : List (Str × V)} {f : Addr} {fd : FuncData} {N ps : List Str} {k : Nat} {sp : Sp} (U : FunD K x qual params body scope dvs kws f fd) (S : FnScope N ps scope) (len : ∀ vs H Q E, sp vs H Q E → vs.length = ps.length)
    (hb : ∀ (cdv : Value) (A : Around) (outer : List Env) (s : Shared) (H : Hp) (vs : List V) (Q : VK) (E : XK), A.guards = some [] → Room k (A.deeper (envOfC qual scope s.heap.objs.size f cdv)) → sp vs H Q E →
      ∃ t, PSs (cxOf (L2N.CX P w) P w K mg base N qual scope f cdv A outer s H E) body t ∧ t { nx := fun _ H' => Q .non H', rt := Q } (start N vs) H) : FnG P w K mg base (k + 1) f fd ps sp := by
  obtain ⟨oc, od, dV, kV, doc, pm, an, cdv, ct, osl, rfl, lk, hcd, _, _⟩ := U.ex
  refine ⟨len, fun A outer s H args us vs Q E hg hr e0 hbd r hsp => ?_⟩
  have KX : K.In s.heap := e0.mod.kin.keeps fun b o e => (e0.bs b o e).1
  have lim : s.heap.NoLimit := e0.mod.nolimit.keeps fun b o e => (e0.bs b o e).1
  obtain ⟨t, ht, hq⟩ := hb cdv A outer s H vs Q E hg (hr.deeper _) hsp
  refine codeAny_call_function hr.depth (KX _ _ lk) rfl S.co S.gen rfl (PySem.W.codeRec_of KX hcd) (hbd _ _ _ _ ?_)
  refine wpAny_newFunctionEnv_cells S.kind (fun y hy => ?_) fun env he s1 z => ?_
  · rcases S.par y.1 (List.of_mem_zip hy).1 with q | q
    · exact .inl q
    · exact .inr ⟨q, PySem.W.cellsFrom_some _ _ _ (.inl q)⟩
  · subst he
    refine ⟨lim.keeps z.toInCall.keep, codeAny_func ?_⟩
    have I : Inv (cxOf (L2N.CX P w) P w K mg base N qual scope f cdv A outer s H E) [] (start N vs) H s1 := inv_start S hr.hd e0 (len _ _ _ _ hsp) r z
    refine wpAny_mono (ht.run [] s1 _ H _ I hq) (fun fl s' q => ?_) fun e s' q => q
    cases fl with
    | ret u =>
      obtain ⟨v, σ', H', J, rv, q⟩ := q
      exact ⟨v, H', J.os, J.bare, J.base, J.hok, rv, q⟩
    | next =>
      obtain ⟨σ', H', J, q⟩ := q
      exact ⟨.non, H', J.os, J.bare, J.base, J.hok, rfl, q⟩
    | brk =>
      obtain ⟨_, _, _, q⟩ := q
      exact q.elim
    | cont =>
      obtain ⟨_, _, _, q⟩ := q
      exact q.elim
/-- .. one that is called where an exception is handled -/
theorem fnX_of {x qual : Str} {params : Arguments} {body : List Stmt} {scope : Scope} {dvs : List V} {kws : List (Str × V)} {f : Addr} {fd : FuncData} {N ps : List Str} {k : Nat} {g : List Vl → Sto → Res Vl} (U : FunD K x qual params body scope dvs kws f fd) (S : FnScope N ps scope) (len : ∀ xa vs H Q E, spF ⟨K, xa⟩ g vs H Q E → vs.length = ps.length)
    (hb : ∀ (cdv : Value) (A : Around) (outer : List Env) (s : Shared) (H : Hp) (vs : List V) (Q : VK) (E : XK) (p : Addr × Obj) (C d : Addr), A.guards = some [] → L2H.Hot1 A p → p.2.cls = .ref C → p.2.dict = some d → L2H.RoomH k (A.deeper (envOfC qual scope s.heap.objs.size f cdv)) → spF ⟨K, some (p.1, C, d)⟩ g vs H Q E →
      ∃ t, PSs (L2H.cxH (L2N.CX P w) P w K mg base N qual scope f cdv A outer s H E p) body t ∧ t { nx := fun _ H' => Q .non H', rt := Q } (start N vs) H) : FnX P w K mg base (k + 1) f fd ps g := by
  obtain ⟨oc, od, dV, kV, doc, pm, an, cdv, ct, osl, rfl, lk, hcd, _, _⟩ := U.ex
  refine ⟨len, fun A outer s H args us vs Q E p C d hg hr hot hC hd hpin e0 hbd r hsp => ?_⟩
  have KX : K.In s.heap := e0.mod.kin.keeps fun b o e => (e0.bs b o e).1
  have lim : s.heap.NoLimit := e0.mod.nolimit.keeps fun b o e => (e0.bs b o e).1
  obtain ⟨t, ht, hq⟩ := hb cdv A outer s H vs Q E p C d hg hot hC hd (hr.deeper _) hsp
  refine codeAny_call_function hr.depth (KX _ _ lk) rfl S.co S.gen rfl (PySem.W.codeRec_of KX hcd) (hbd _ _ _ _ ?_)
  refine wpAny_newFunctionEnv_cells S.kind (fun y hy => ?_) fun env he s1 z => ?_
  · rcases S.par y.1 (List.of_mem_zip hy).1 with q | q
    · exact .inl q
    · exact .inr ⟨q, PySem.W.cellsFrom_some _ _ _ (.inl q)⟩
  · subst he
    refine ⟨lim.keeps z.toInCall.keep, codeAny_func ?_⟩
    have I : Inv (L2H.cxH (L2N.CX P w) P w K mg base N qual scope f cdv A outer s H E p) [] (start N vs) H s1 := L2H.inv_startH S hpin e0 (len _ _ _ _ _ hsp) r z
    refine wpAny_mono (ht.run [] s1 _ H _ I hq) (fun fl s' q => ?_) fun e s' q => q
    cases fl with
    | ret u =>
      obtain ⟨v, σ', H', J, rv, q⟩ := q
      exact ⟨v, H', J.os, J.bare, J.base, J.hok, rv, q⟩
    | next =>
      obtain ⟨σ', H', J, q⟩ := q
      exact ⟨.non, H', J.os, J.bare, J.base, J.hok, rfl, q⟩
    | brk =>
      obtain ⟨_, _, _, q⟩ := q
      exact q.elim
    | cont =>
      obtain ⟨_, _, _, q⟩ := q
      exact q.elim
/-- what the head tells of a program -/
structure FT (K : PySem.W.Frag) (mg : Str → Option Value) (cs : List D) (T : List FD) (FH : List Nat) (CN BN : List Str) (XN : List (Str × List Str)) (FL CL : List Str) (KF : List KForm) : Prop where
  fns : ∀ (f : Nat) (d : FD), T[f]? = some d → ∃ (st : Stmt) (fa : Addr) (fd : FuncData), FunD K d.name d.name (defArgs st) (defBody st) (defScope st) [] [] fa fd ∧ mg d.name = some (.ref fa) ∧
    ((FH[f]? = some 0 ∨ FH[f]? = some 1) → Binds K fd (d.N.take d.np) []) ∧ (∀ (j : Nat) (q : KForm), KF[j]? = some q → q.f = f → KBq K cs fd (d.N.take d.np) q) ∧ FnScope d.N (d.N.take d.np) (defScope st) ∧ d.np ≤ d.N.length ∧ ckSs ⟨d.N, defScope st, fun _ => true, T.map (·.name), CN, BN, d.hot, FH, XN, FL, CL, KF⟩ d.body (defBody st) = true
  cold : ∀ (f : Nat) (d : FD), T[f]? = some d → FH[f]? = some 0 → d.hot = false
  warm : ∀ (f : Nat) (d : FD), T[f]? = some d → FH[f]? = some 1 → d.hot = true
  kf : ∀ (j : Nat) (q : KForm), KF[j]? = some q → ∃ d, T[q.f]? = some d ∧ q.name = d.name ∧ d.hot = false
  xt : ∀ (P : Program) (w : World) (base : Heap), XT P w K mg base cs XN FL CL
  blt : ∀ x, x ∈ BN → mg x = none
  cst : ∀ (i : Nat) (x : Str) (v : D), CN[i]? = some x → cs[i]? = some v → ∃ u z, mg x = some u ∧ RelV z u ∧ ∀ H B, Rp K H B z v
theorem er_start {K : Ky} {H : Hp} {F ρ : List Addr} : ∀ (N : List Str) {vs : List V} {args : List Vl}, RVs K H F ρ vs args → ER K H F ρ (start N vs) (startE N args) := by
  intro N vs args r
  have gaps : ∀ n, ER K H F ρ (List.replicate n (none : Option V)) (List.replicate n none) := by
    intro n
    induction n with
    | zero => exact .nil
    | succ n ih => exact .gap ih
  unfold L2.start startE
  rw [r.length]
  generalize N.length - args.length = m
  induction r with
  | nil => exact gaps m
  | cons h r ih => exact .val h ih
theorem wback_len : ∀ (refs : List Nat) (st os : Sto), (wback st refs os).length = st.length
  | [], st, os => by cases os <;> rfl
  | _ :: _, st, [] => rfl
  | n :: r, st, o :: os => by
    show (wback (st.set n o) r os).length = _
    rw [wback_len r, List.length_set]
theorem wback_other {i : Nat} : ∀ (refs : List Nat) (st os : Sto), i ∉ refs → (wback st refs os)[i]? = st[i]?
  | [], st, os, _ => by cases os <;> rfl
  | _ :: _, st, [], _ => rfl
  | n :: r, st, o :: os, h => by
    have h2 : n ≠ i := fun e => h (by rw [e]; exact List.mem_cons_self)
    show (wback (st.set n o) r os)[i]? = _
    rw [wback_other r _ _ fun z => h (List.mem_cons_of_mem _ z), List.getElem?_set_ne h2]
theorem wback_at {i j : Nat} {o : Ob} : ∀ (refs : List Nat) (st os : Sto), refs.Nodup → refs[j]? = some i → os[j]? = some o → i < st.length → (wback st refs os)[i]? = some o := by
  induction j with
  | zero =>
    intro refs st os hn h1 h2 hi
    cases refs with
    | nil => cases h1
    | cons n r =>
      cases os with
      | nil => cases h2
      | cons p os =>
        simp only [List.getElem?_cons_zero, Option.some.injEq] at h1 h2
        subst h1 h2
        show (wback (st.set n p) r os)[n]? = _
        rw [wback_other r _ _ (List.nodup_cons.mp hn).1, List.getElem?_set_self hi]
  | succ j ih =>
    intro refs st os hn h1 h2 hi
    cases refs with
    | nil => cases h1
    | cons n r =>
      cases os with
      | nil => cases h2
      | cons p os =>
        simp only [List.getElem?_cons_succ] at h1 h2
        exact ih r (st.set n p) os (List.nodup_cons.mp hn).2 h1 h2 (by rw [List.length_set]; exact hi)
/-- the addresses of what is handed in -/
theorem objs_at {H : Hp} {ρ F : List Addr} {st : Sto} (s : SR K H ρ F st) : ∀ {refs : List Nat} {os : Sto}, objsA st refs = some os → ∃ ρ0 : List Addr, ρ0.length = os.length ∧ refs.length = os.length ∧ ∀ (j n : Nat), refs[j]? = some n → ∃ (o : Ob) (a : Addr), os[j]? = some o ∧ st[n]? = some o ∧ ρ0[j]? = some a ∧ ρ[n]? = some a
  | [], os, e => by
    cases e
    exact ⟨[], rfl, rfl, fun j n z => by simp at z⟩
  | m :: r, os, e => by
    unfold objsA at e
    cases e1 : st[m]? with
    | none => rw [e1] at e; cases e
    | some o =>
      cases e2 : objsA st r with
      | none => rw [e1, e2] at e; cases e
      | some os' =>
        rw [e1, e2] at e
        cases e
        obtain ⟨ρ0, l1, l2, h⟩ := objs_at s e2
        obtain ⟨a, ha, _, _⟩ := s.at e1
        refine ⟨a :: ρ0, by simp [l1], by simp [l2], fun j n z => ?_⟩
        cases j with
        | zero =>
          simp only [List.getElem?_cons_zero, Option.some.injEq] at z
          subst z
          exact ⟨o, a, rfl, e1, rfl, ha⟩
        | succ j =>
          simp only [List.getElem?_cons_succ] at z ⊢
          exact h j n z
theorem rvs_loc {K : Ky} {H : Hp} {F ρ ρ0 : List Addr} (sub : ∀ a ∈ ρ0, a ∈ ρ) : ∀ {vs : List V} {args : List Vl} {j : Nat}, RVs K H F ρ vs args → (∀ (i n : Nat), (refsA args)[i]? = some n → ∃ a : Addr, ρ0[j + i]? = some a ∧ ρ[n]? = some a) → RVs K H (ρ ++ F) ρ0 vs (locA args j)
  | _, _, _, .nil, _ => .nil
  | _, .d y :: r, j, .cons h t, f => by
    refine .cons (show Rp K H (ρ0 ++ (ρ ++ F)) _ y from Rp.sub (fun a ha => ?_) h) (rvs_loc sub t f)
    rcases List.mem_append.mp ha with z | z
    · exact List.mem_append_left _ (sub a z)
    · exact z
  | _, .x c fs :: r, j, .cons ⟨a, C, d, h1, h2, h3, h4⟩ t, f => by
    refine .cons ⟨a, C, d, h1, h2, h3, h4.sub fun b hb => ?_⟩ (rvs_loc sub t f)
    rcases List.mem_append.mp hb with z | z
    · exact List.mem_append_left _ (sub b z)
    · exact z
  | _, .r n :: r, j, .cons ⟨a, h1, h2⟩ t, f => by
    obtain ⟨b, q1, q2⟩ := f 0 n rfl
    rw [h1] at q2
    cases q2
    refine .cons ⟨a, q1, h2⟩ (rvs_loc sub t fun i m z => ?_)
    obtain ⟨b, q1, q2⟩ := f (i + 1) m (by simpa [refsA] using z)
    exact ⟨b, by rw [show j + 1 + i = j + (i + 1) by omega]; exact q1, q2⟩
/-- into a function and out of it again -/
theorem SR.into {H : Hp} {ρ ρ0 F : List Addr} {st os : Sto} {refs : List Nat} (s : SR K H ρ F st) (nd : refs.Nodup) (l1 : ρ0.length = os.length) (l2 : refs.length = os.length)
    (h : ∀ (j n : Nat), refs[j]? = some n → ∃ (o : Ob) (a : Addr), os[j]? = some o ∧ st[n]? = some o ∧ ρ0[j]? = some a ∧ ρ[n]? = some a) : (∀ a ∈ ρ0, a ∈ ρ) ∧ SR K H ρ0 (ρ ++ F) os := by
  have at0 : ∀ j a, ρ0[j]? = some a → ∃ n o, refs[j]? = some n ∧ os[j]? = some o ∧ st[n]? = some o ∧ ρ[n]? = some a := fun j a ha => by
    have hj : j < refs.length := by rw [l2, ← l1]; exact (List.getElem?_eq_some_iff.mp ha).1
    obtain ⟨o, b, q1, q2, q3, q4⟩ := h j _ (List.getElem?_eq_getElem hj)
    rw [ha] at q3
    cases q3
    exact ⟨_, o, List.getElem?_eq_getElem hj, q1, q2, q4⟩
  have sub : ∀ a ∈ ρ0, a ∈ ρ := fun a ha => by
    obtain ⟨j, hj⟩ := List.mem_iff_getElem?.mp ha
    obtain ⟨n, o, _, _, _, q⟩ := at0 j a hj
    exact List.mem_of_getElem? q
  refine ⟨sub, ⟨l1, ?_, fun j o a h1 h2 => ?_, fun a ha => (List.mem_append.mp ha).elim (s.live a) (s.liveF a)⟩⟩
  · refine List.pairwise_iff_getElem.mpr fun i j hi hj hij e => ?_
    obtain ⟨n, _, a1, _, _, a2⟩ := at0 _ _ (List.getElem?_eq_getElem hi)
    obtain ⟨m, _, b1, _, _, b2⟩ := at0 _ _ (List.getElem?_eq_getElem hj)
    rw [e] at a2
    have nm : n = m := by
      obtain ⟨p1, p2⟩ := List.getElem?_eq_some_iff.mp a2
      obtain ⟨p3, p4⟩ := List.getElem?_eq_some_iff.mp b2
      exact (List.getElem_inj s.nd).mp (p2.trans p4.symm)
    subst nm
    obtain ⟨p1, p2⟩ := List.getElem?_eq_some_iff.mp a1
    obtain ⟨p3, p4⟩ := List.getElem?_eq_some_iff.mp b1
    have := (List.getElem_inj nd).mp (p2.trans p4.symm)
    omega
  · obtain ⟨n, o', _, q1, q2, q3⟩ := at0 j a h2
    rw [h1] at q1
    cases q1
    exact (s.obj n o a q2 q3).sub fun b hb => (List.mem_append.mp hb).elim (fun z => List.mem_append_left _ (sub b z)) id
theorem SR.back {H H' : Hp} {ρ ρ0 ρ' F : List Addr} {st os st' : Sto} {refs : List Nat} (s : SR K H ρ F st) (nd : refs.Nodup) (l1 : ρ0.length = os.length) (l2 : refs.length = os.length)
    (h : ∀ (j n : Nat), refs[j]? = some n → ∃ (o : Ob) (a : Addr), os[j]? = some o ∧ st[n]? = some o ∧ ρ0[j]? = some a ∧ ρ[n]? = some a) (n : Nx ρ0 H ρ' H') (s' : SR K H' ρ' (ρ ++ F) st') :
    (∀ b ∈ ρ ++ F, b ∈ ρ' ++ (ρ ++ F)) ∧ Nx ρ H ρ H' ∧ SR K H' ρ F (wback st refs st') := by
  obtain ⟨sub, s0⟩ := s.into nd l1 l2 h
  have w : ∀ b ∈ ρ ++ F, b ∈ ρ' ++ (ρ ++ F) := fun b hb => List.mem_append_right _ hb
  obtain ⟨m, em, fm⟩ := id n.ext
  have nx : Nx ρ H ρ H' := ⟨⟨[], by simp, fun _ z => nomatch z⟩, fun a o e ha => n.keep a o e fun z => ha (sub a z), n.tups, fun a ha => by
    by_cases z : a ∈ ρ0
    · exact n.live a (by rw [em]; exact List.mem_append_left _ z)
    · obtain ⟨o, e⟩ := s.live a ha
      exact ⟨o, n.keep a o e z⟩⟩
  refine ⟨w, nx, ⟨by rw [wback_len]; exact s.len, s.nd, fun i o a h1 h2 => ?_, fun a ha => s'.liveF a (List.mem_append_right _ ha)⟩⟩
  by_cases hi : i ∈ refs
  · obtain ⟨j, hj⟩ := List.mem_iff_getElem?.mp hi
    obtain ⟨oo, b, q1, q2, q3, q4⟩ := h j i hj
    rw [h2] at q4
    cases q4
    have hj' : ρ'[j]? = some a := by
      rw [em, List.getElem?_append_left (List.getElem?_eq_some_iff.mp q3).1]
      exact q3
    have hl : j < st'.length := by
      rw [← s'.len]
      exact (List.getElem?_eq_some_iff.mp hj').1
    have e3 := wback_at (o := st'[j]) refs st st' nd hj (List.getElem?_eq_getElem hl) (List.getElem?_eq_some_iff.mp q2).1
    rw [h1] at e3
    have e4 : st'[j]? = some o := by rw [List.getElem?_eq_getElem hl]; exact e3.symm
    exact (s'.obj j o a e4 hj').sub w
  · rw [wback_other refs st st' hi] at h1
    have ha : a ∉ ρ0 := fun z => by
      obtain ⟨j, hj⟩ := List.mem_iff_getElem?.mp z
      have hjr : j < refs.length := by rw [l2, ← l1]; exact (List.getElem?_eq_some_iff.mp hj).1
      obtain ⟨oo, b, q1, q2, q3, q4⟩ := h j _ (List.getElem?_eq_getElem hjr)
      rw [hj] at q3
      cases q3
      have : i = refs[j] := by
        obtain ⟨p1, p2⟩ := List.getElem?_eq_some_iff.mp h2
        obtain ⟨p3, p4⟩ := List.getElem?_eq_some_iff.mp q4
        exact (List.getElem_inj s.nd).mp (p2.trans p4.symm)
      exact hi (by rw [this]; exact List.getElem_mem hjr)
    exact OR.mono' (st := st) nx (fun u e => n.keep a u e ha) (s.obj i o a h1 h2)
theorem SR.back1 {H H' : Hp} {ρ ρ0 ρ' F : List Addr} {st os st' : Sto} {refs : List Nat} {k : Nat} {ob : Ob} {a : Addr} (s : SR K H ρ F st) (nd : refs.Nodup) (l1 : ρ0.length = os.length) (l2 : refs.length = os.length)
    (h : ∀ (j n : Nat), refs[j]? = some n → ∃ (o : Ob) (a : Addr), os[j]? = some o ∧ st[n]? = some o ∧ ρ0[j]? = some a ∧ ρ[n]? = some a) (n : Nx ρ0 H ρ' H') (s' : SR K H' ρ' (ρ ++ F) st') (e : st'[k]? = some ob) (ha : ρ'[k]? = some a) (hk : refs[k]? = none) :
    H a = none ∧ Nx ρ H (ρ ++ [a]) H' ∧ SR K H' (ρ ++ [a]) F (wback st refs st' ++ [ob]) := by
  obtain ⟨w, nx, sb⟩ := s.back nd l1 l2 h n s'
  obtain ⟨m, em, fm⟩ := id n.ext
  have hm : a ∈ m := by
    rw [em, List.getElem?_append_right (by rw [l1, ← l2]; exact List.getElem?_eq_none_iff.mp hk)] at ha
    exact List.mem_of_getElem? ha
  have hn : H a = none := fm a hm
  have an : a ∉ ρ := s.fresh hn
  have w2 : ∀ b ∈ (ρ ++ [a]) ++ F, b ∈ ρ' ++ (ρ ++ F) := fun b hb => by
    rcases List.mem_append.mp hb with z | z
    · rcases List.mem_append.mp z with z | z
      · exact w b (List.mem_append_left _ z)
      · rw [List.mem_singleton.mp z]; exact List.mem_append_left _ (List.mem_of_getElem? ha)
    · exact w b (List.mem_append_right _ z)
  have bl : (wback st refs st').length = ρ.length := by rw [wback_len, s.len]
  refine ⟨hn, ⟨⟨[a], rfl, fun b hb => by rw [List.mem_singleton.mp hb]; exact hn⟩, nx.keep, nx.tups, fun b hb => ?_⟩, ⟨by rw [List.length_append, List.length_append, bl]; rfl, ?_, fun i o b h1 h2 => ?_, sb.liveF⟩⟩
  · rcases List.mem_append.mp hb with z | z
    · exact nx.live b z
    · rw [List.mem_singleton.mp z]; exact n.live a (List.mem_of_getElem? ha)
  · rw [List.nodup_append]
    exact ⟨s.nd, by simp, fun b hb c hc e => an (by rw [List.mem_singleton.mp hc] at e; rw [← e]; exact hb)⟩
  · by_cases hi : i < ρ.length
    · rw [List.getElem?_append_left (by rw [bl]; exact hi)] at h1
      rw [List.getElem?_append_left hi] at h2
      have q := sb.obj i o b h1 h2
      by_cases hr : i ∈ refs
      · obtain ⟨j, hj⟩ := List.mem_iff_getElem?.mp hr
        obtain ⟨oo, c, q1, q2, q3, q4⟩ := h j i hj
        rw [h2] at q4
        cases q4
        have hj' : ρ'[j]? = some b := by
          rw [em, List.getElem?_append_left (List.getElem?_eq_some_iff.mp q3).1]
          exact q3
        have hl : j < st'.length := by
          rw [← s'.len]
          exact (List.getElem?_eq_some_iff.mp hj').1
        have e3 := wback_at (o := st'[j]) refs st st' nd hj (List.getElem?_eq_getElem hl) (List.getElem?_eq_some_iff.mp q2).1
        rw [h1] at e3
        have e4 : st'[j]? = some o := by rw [List.getElem?_eq_getElem hl]; exact e3.symm
        exact (s'.obj j o b e4 hj').sub w2
      · rw [wback_other refs st st' hr] at h1
        have q0 := s.obj i o b h1 h2
        have hb0 : ∀ u, H b = some u → H' b = some u := fun u e => by
          refine n.keep b u e fun z => hr ?_
          obtain ⟨j, hj⟩ := List.mem_iff_getElem?.mp z
          have hjr : j < refs.length := by rw [l2, ← l1]; exact (List.getElem?_eq_some_iff.mp hj).1
          obtain ⟨oo, c, q1, q2, q3, q4⟩ := h j _ (List.getElem?_eq_getElem hjr)
          rw [hj] at q3
          cases q3
          have : i = refs[j] := by
            obtain ⟨p1, p2⟩ := List.getElem?_eq_some_iff.mp h2
            obtain ⟨p3, p4⟩ := List.getElem?_eq_some_iff.mp q4
            exact (List.getElem_inj s.nd).mp (p2.trans p4.symm)
          rw [this]; exact List.getElem_mem hjr
        have nx2 : Nx ρ H (ρ ++ [a]) H' := ⟨⟨[a], rfl, fun b hb => by rw [List.mem_singleton.mp hb]; exact hn⟩, nx.keep, nx.tups, fun b hb => by
          rcases List.mem_append.mp hb with z | z
          · exact nx.live b z
          · rw [List.mem_singleton.mp z]; exact n.live a (List.mem_of_getElem? ha)⟩
        exact OR.mono' (st := st) nx2 hb0 q0
    · have e3 : i = ρ.length := by
        have := (List.getElem?_eq_some_iff.mp h2).1
        simp only [List.length_append, List.length_singleton] at this
        omega
      subst e3
      rw [List.getElem?_append_right (by rw [bl]; exact Nat.le_refl _), bl, Nat.sub_self] at h1
      rw [List.getElem?_append_right (Nat.le_refl _), Nat.sub_self] at h2
      cases h1
      cases h2
      exact (s'.obj k _ _ e ha).sub w2
theorem callF_len {cs : List D} {T : List FD} {W kk f : Nat} {args : List Vl} {st : Sto} {d : FD} (hd : T[f]? = some d) {K : Ky} {Z : XK} {F ρ : List Addr} {H : Hp} {Q : V → Hp → Prop} (h : Wn K Z F (relV K F) ρ H (callF cs T W kk f args st) Q) : args.length = d.np := by
  cases kk with
  | zero => exact h.elim
  | succ kk =>
    unfold callF at h
    rw [hd] at h
    simp only at h
    split at h
    · rename_i q; exact q.1
    · exact h.elim
/-- a tuple that is told, behind the function -/
theorem frz_rp {K : Ky} {H H' : Hp} {ρ ρ0 ρ' F : List Addr} {st os st' : Sto} {refs : List Nat} (s : SR K H ρ F st) (nd : refs.Nodup) (l1 : ρ0.length = os.length) (l2 : refs.length = os.length)
    (h : ∀ (j n : Nat), refs[j]? = some n → ∃ (o : Ob) (a : Addr), os[j]? = some o ∧ st[n]? = some o ∧ ρ0[j]? = some a ∧ ρ[n]? = some a) (n : Nx ρ0 H ρ' H') (s' : SR K H' ρ' (ρ ++ F) st') :
    ∀ {us : List V} {vs : List Vl} {ds : List D}, RVs K H' (ρ ++ F) ρ' us vs → frzV refs.length st' vs = some ds → RpA K H' (ρ ++ F) us ds
  | _, _, _, .nil, e => by cases e; exact .nil
  | _, .d y :: r, ds, .cons hv t, e => by
    unfold frzV at e
    obtain ⟨ds', e1, rfl⟩ := Option.map_eq_some_iff.mp e
    obtain ⟨w, _, _⟩ := s.back nd l1 l2 h n s'
    exact .cons (Rp.sub w hv) (frz_rp s nd l1 l2 h n s' t e1)
  | _, .x c fs :: r, ds, _, e => by cases e
  | _, .r j :: r, ds, .cons ⟨a, ha, hv⟩ t, e => by
    unfold frzV at e
    split at e
    · cases e
    · rename_i hj
      split at e
      · rename_i xs ds' e1 e2
        cases e
        subst hv
        obtain ⟨w, _, _⟩ := s.back nd l1 l2 h n s'
        obtain ⟨c0, _, _⟩ := s.back1 nd l1 l2 h n s' e1 ha (List.getElem?_eq_none_iff.mpr (Nat.le_of_not_lt hj))
        obtain ⟨vs', h1, h2⟩ := s'.obj j _ a e1 ha
        exact .cons (.lst (.inl ⟨.inl h1, s.freshF c0⟩) (h2.sub w)) (frz_rp s nd l1 l2 h n s' t e2)
      · cases e
/-- into a function's body -/
theorem body_rd {cs : List D} {T : List FD} {W kk f : Nat} {d : FD} (hd : T[f]? = some d) {K : Ky} {vs : List V} {H : Hp} {Q : VK} {E : XK} (h : spF K (callF cs T W (kk + 1) f) vs H Q E) :
    tS K (fun c d _ H => E c d H) (evSs cs (callF cs T W kk) W d.body) { nx := fun _ H' => Q .non H', rt := Q } (start d.N vs) H := by
  obtain ⟨ρ, F, st0, args, s0, r, q⟩ := h
  have ln := callF_len hd q
  unfold callF at q
  rw [hd] at q
  simp only at q
  split at q
  · rename_i hnd
    cases eo : objsA st0 (refsA args) with
    | none => rw [eo] at q; exact q.elim
    | some os =>
      rw [eo] at q
      simp only at q
      obtain ⟨ρ0, l1, l2, hat⟩ := objs_at s0 eo
      obtain ⟨sub, sI⟩ := s0.into hnd.2 l1 l2 hat
      refine ⟨ρ0, ρ ++ F, os, startE d.N (locA args 0), sI, er_start d.N (rvs_loc sub r fun i n z => ?_), ?_⟩
      · obtain ⟨o, a, _, _, q3, q4⟩ := hat i n z
        exact ⟨a, by rw [Nat.zero_add]; exact q3, q4⟩
      · unfold backOut outOf at q
        cases e1 : evSs cs (callF cs T W kk) W d.body (startE d.N (locA args 0)) os with
        | no => rw [e1] at q; exact q.elim
        | ex c fs st1 =>
          rw [e1] at q
          intro ρ' H' C dd n' s' xc xf
          obtain ⟨w, b1, b2⟩ := s0.back hnd.2 l1 l2 hat n' s'
          exact q ρ H' C dd b1 b2 xc (xf.sub w)
        | ok fl st1 =>
          rw [e1] at q
          cases fl with
          | bk env => exact q.elim
          | ct env => exact q.elim
          | nx env =>
            intro ρ' σ' H' n' s' _
            obtain ⟨_, b1, b2⟩ := s0.back hnd.2 l1 l2 hat n' s'
            exact q ρ .non H' b1 b2 .non
          | rtt vs =>
            intro ρ' x H' n' s' r'
            obtain ⟨a, us, rfl, sq, rv⟩ := r'
            simp only [bnd_ok] at q
            cases ef : frzV (refsA args).length st1 vs with
            | none => rw [ef] at q; exact q.elim
            | some ds =>
              rw [ef] at q
              obtain ⟨w, b1, b2⟩ := s0.back hnd.2 l1 l2 hat n' s'
              exact q ρ _ H' b1 b2 (.tup sq (frz_rp s0 hnd.2 l1 l2 hat n' s' rv ef))
          | ret v =>
            intro ρ' x H' n' s' r'
            obtain ⟨w, b1, b2⟩ := s0.back hnd.2 l1 l2 hat n' s'
            cases v with
            | d y => exact q ρ x H' b1 b2 (Rp.sub w r')
            | x c fs => exact q.elim
            | r n =>
              simp only [bnd_ok] at q
              obtain ⟨a, ha, rfl⟩ := r'
              unfold backV at q
              simp only at q
              cases er : (refsA args)[n]? with
              | some m =>
                rw [er] at q
                cases hp : d.pure with
                | true => rw [hp] at q; exact q.elim
                | false =>
                  rw [hp] at q
                  obtain ⟨o, b, _, _, q3, q4⟩ := hat n m er
                  refine q ρ _ H' b1 b2 ⟨a, ?_, rfl⟩
                  obtain ⟨mm, em, _⟩ := n'.ext
                  rw [em, List.getElem?_append_left (List.getElem?_eq_some_iff.mp q3).1, q3] at ha
                  cases ha
                  exact q4
              | none =>
                rw [er] at q
                simp only at q
                cases e2 : st1[n]? with
                | none => rw [e2] at q; exact q.elim
                | some ob =>
                  rw [e2] at q
                  obtain ⟨c0, c1, c2⟩ := s0.back1 hnd.2 l1 l2 hat n' s' e2 ha er
                  cases hp : d.pure with
                  | true =>
                    rw [hp] at q
                    cases ob with
                    | dic _ => exact q.elim
                    | lst ys =>
                      obtain ⟨vs', h1, h2⟩ := s'.obj n _ a e2 ha
                      exact q ρ _ H' b1 b2 (.lst (.inl ⟨.inl h1, s0.freshF c0⟩) (h2.sub w))
                  | false =>
                    rw [hp] at q
                    have q' : Wn K E F (relV K F) ρ H (.ok (.r st0.length) (wback st0 (refsA args) st1 ++ [ob])) Q := by cases ob <;> exact q
                    refine q' (ρ ++ [a]) _ H' c1 c2 ⟨a, ?_, rfl⟩
                    rw [← s0.len, List.getElem?_append_right (Nat.le_refl _), Nat.sub_self]
                    rfl
  · exact q.elim
/-- what is known of all functions at a level -/
structure FnAll (P : Program) (w : World) (K : PySem.W.Frag) (mg : Str → Option Value) (base : Heap) (cs : List D) (T : List FD) (FH : List Nat) (KF : List KForm) (W kk f : Nat) (d : FD) : Prop where
  ex : ∃ fa fd, mg d.name = some (.ref fa) ∧ PySem.W.keepIn K (.ref fa) = true ∧ ((FH[f]? = some 0 ∨ FH[f]? = some 1) → Binds K fd (d.N.take d.np) []) ∧ (∀ (j : Nat) (q : KForm), KF[j]? = some q → q.f = f → KBq K cs fd (d.N.take d.np) q) ∧
    (d.hot = false → FnG P w K mg base (kk + 2) fa fd (d.N.take d.np) (spF ⟨K, none⟩ (callF cs T W kk f))) ∧ (d.hot = true → FnX P w K mg base (kk + 2) fa fd (d.N.take d.np) (callF cs T W kk f))
theorem fns_ok {cs : List D} {T : List FD} {W : Nat} {FH : List Nat} {CN BN : List Str} {XN : List (Str × List Str)} {FL CL : List Str} {KF : List KForm} (X : FT K mg cs T FH CN BN XN FL CL KF) : ∀ (kk f : Nat) (d : FD), T[f]? = some d → FnAll P w K mg base cs T FH KF W kk f d := by
  intro kk
  induction kk with
  | zero =>
    intro f d hd
    obtain ⟨st, fa, fd, U, m, b, bk, S, hn, ck⟩ := X.fns f d hd
    refine ⟨fa, fd, m, U.kp, b, bk, fun _ => ⟨fun vs H Q E h => ?_, fun A outer s H args us vs Q E _ _ _ _ _ h => ?_⟩, fun _ => ⟨fun xa vs H Q E h => ?_, fun A outer s H args us vs Q E p C d _ _ _ _ _ _ _ _ _ h => ?_⟩⟩ <;>
    · obtain ⟨ρ, F, st, args, s, r, q⟩ := h
      exact q.elim
  | succ kk ih =>
    intro f d hd
    obtain ⟨st, fa, fd, U, m, b, bk, S, hn, ck⟩ := X.fns f d hd
    have len : ∀ xa vs H Q E, spF ⟨K, xa⟩ (callF cs T W (kk + 1) f) vs H Q E → vs.length = (d.N.take d.np).length := fun xa vs H Q E h => by
      obtain ⟨ρ, F, st, args, s, r, q⟩ := h
      rw [r.length, callF_len hd q, List.length_take]
      omega
    have fnh : ∀ (g : Nat) (x : Str), FH[g]? = some 1 → (T.map (·.name))[g]? = some x → ∃ fa fd ps, mg x = some (.ref fa) ∧ PySem.W.keepIn K (.ref fa) = true ∧ Binds K fd ps [] ∧ FnX P w K mg base (kk + 2) fa fd ps (callF cs T W kk g) := fun g x hh hx => by
      rw [List.getElem?_map] at hx
      obtain ⟨d2, hd2, rfl⟩ := Option.map_eq_some_iff.mp hx
      obtain ⟨fa2, fd2, i1, i2, i3, _, i4, i5⟩ := (ih g d2 hd2).ex
      exact ⟨fa2, fd2, _, i1, i2, i3 (.inr hh), i5 (X.warm g d2 hd2 hh)⟩
    have fns : ∀ (g : Nat) (x : Str), FH[g]? = some 0 → (T.map (·.name))[g]? = some x → ∃ fa fd ps, mg x = some (.ref fa) ∧ PySem.W.keepIn K (.ref fa) = true ∧ Binds K fd ps [] ∧ FnG P w K mg base (kk + 2) fa fd ps (spF ⟨K, none⟩ (callF cs T W kk g)) := fun g x hh hx => by
      rw [List.getElem?_map] at hx
      obtain ⟨d2, hd2, rfl⟩ := Option.map_eq_some_iff.mp hx
      obtain ⟨fa2, fd2, i1, i2, i3, _, i4, i5⟩ := (ih g d2 hd2).ex
      exact ⟨fa2, fd2, _, i1, i2, i3 (.inl hh), i4 (X.cold g d2 hd2 hh)⟩
    have kfs : ∀ (j : Nat) (q : KForm), KF[j]? = some q → ∃ fa fd ps, mg q.name = some (.ref fa) ∧ PySem.W.keepIn K (.ref fa) = true ∧ KBq K cs fd ps q ∧ FnG P w K mg base (kk + 2) fa fd ps (spF ⟨K, none⟩ (callF cs T W kk q.f)) := fun j q hq => by
      obtain ⟨d2, hd2, e, hc⟩ := X.kf j q hq
      obtain ⟨fa2, fd2, i1, i2, _, i3, i4, i5⟩ := (ih q.f d2 hd2).ex
      rw [e]
      exact ⟨fa2, fd2, _, i1, i2, i3 j q hq rfl, i4 hc⟩
    refine ⟨fa, fd, m, U.kp, b, bk, fun hot => fnG_of U S (fun vs H Q E h => len _ vs H Q E h) fun cdv A outer s H vs Q E hg hr h => ?_, fun hot => fnX_of U S len fun cdv A outer s H vs Q E p C dd hg hh hC hdd hr h => ?_⟩
    · rw [hot] at ck
      have G : Gd cs (callF cs T W kk) (kk + 2) ⟨d.N, defScope st, fun _ => true, T.map (·.name), CN, BN, false, FH, XN, FL, CL, KF⟩ (cxOf (L2N.CX P w) P w K mg base d.N d.name (defScope st) fa cdv A outer s H E) (fun c d _ H => E c d H) none :=
        ⟨rfl, S.nd, rfl, rfl, fun _ => rfl, hg, fun _ => hr, L2H.roomH_of hr, L2N.takes_of rfl rfl rfl rfl, passes_of rfl, fun _ => rfl, fun _ _ _ z => (by cases z), fun z => (by cases z), fnh, fns, kfs, Nat.le_add_left _ _, X.xt P w base, X.blt, X.cst⟩
      exact ⟨_, sndSs (L := W) G (fun _ _ _ _ _ h => h) rfl rfl d.body (defBody st) ck, body_rd hd h⟩
    · rw [hot] at ck
      have G : Gd cs (callF cs T W kk) (kk + 2) ⟨d.N, defScope st, fun _ => true, T.map (·.name), CN, BN, true, FH, XN, FL, CL, KF⟩ (L2H.cxH (L2N.CX P w) P w K mg base d.N d.name (defScope st) fa cdv A outer s H E p) (fun c d _ H => E c d H) (some (p.1, C, dd)) :=
        ⟨rfl, S.nd, rfl, rfl, fun z => (by cases z), hg, fun z => (by cases z), hr, L2N.takes_of rfl rfl rfl rfl, passes_of rfl, fun z => (by cases z), fun a C2 d2 z => (by cases z; exact ⟨p.2, List.mem_singleton.mpr rfl, hh, hC, hdd⟩), fun _ => ⟨_, _, _, rfl⟩, fnh, fns, kfs, Nat.le_add_left _ _, X.xt P w base, X.blt, X.cst⟩
      exact ⟨_, sndSs (L := W) G (fun _ _ _ _ _ h => h) rfl rfl d.body (defBody st) ck, body_rd hd h⟩
end
end Ev
end
section
set_option maxRecDepth 10000
namespace Ev
open PySem PySem.Spec PyProof.Rows L2
/-- the script as it lies at the law's entry -/
def Scr (K : PySem.W.Frag) (H : Hp) (a : Addr) (ns : List Int) : Prop := LL K H a (ns.map V.int) ∧ ∀ b, H b = none ∨ ∃ o xs, H b = some (.frz o (.lst xs))
theorem law_go {P : Program} {w : World} {K : PySem.W.Frag} {mg mb : Str → Option Value} {k : Nat} {fa a : Addr} {x : Str} {sp : Sp} {s1 : Shared} {vs : List Value} {ns : List Int} (KX : K.In s1.heap) (hns : s1.heap.Ns mainGlobals mg)
    (hb : s1.heap.Ns builtinsNs mb) (hbb : ∀ x : Str, x ≠ "__name__" → mb x = bootBuiltins x) (hlim : s1.heap.NoLimit) (hg : s1.gens = #[]) (ha : s1.heap.get? a = some { cls := .type "list", data := .seq vs.toArray }) (hi : IntsAre vs ns) (hl : ns.length ≤ sizeLine) (hr : Room k callerA)
    (G : ∀ base : Heap, ∃ fd, Binds K fd [x] [] ∧ FnG P w K mg base k fa fd [x] sp) (hsp : ∀ H : Hp, Scr K H a ns → sp [.ref a] H (fun v _ => v = .bl true) E0) :
    codeAny (model P w) callerA (.call (.ref fa) ⟨[.ref a], []⟩) (fun r s' => r = .ok (.ret (.bool true)) ∧ OldK s1.heap s'.heap ∧ s'.os = s1.os ∧ AllBare s'.gens) s1 := by
  have go : ∀ H : Hp, Scr K H a ns → HOk P w H s1.heap → (∀ b u, H b = some u → b = a) → (∀ u, H a = some u → K.lookup a = none) →
      codeAny (model P w) callerA (.call (.ref fa) ⟨[.ref a], []⟩) (fun r s' => r = .ok (.ret (.bool true)) ∧ OldK s1.heap s'.heap ∧ s'.os = s1.os ∧ AllBare s'.gens) s1 := by
    intro H hS hok only apart
    have inB : ∀ {b : Addr} {o : Obj}, s1.heap.get? b = some o → (∀ its n, o.data ≠ .seq its n) → (hidT s1.heap H).get? b = some o := fun {b o} e nd => by
      refine hidT_get e ?_
      cases q : H b with
      | none => rfl
      | some u =>
        have z := only b u q
        subst z
        rw [ha] at e
        cases e
        exact absurd rfl (nd _ _)
    have nsB : ∀ {b : Addr} {m : Str → Option Value}, s1.heap.Ns b m → (hidT s1.heap H).Ns b m := fun {b m} z => by
      obtain ⟨o, es, ep, e, d, r⟩ := z
      exact ⟨o, es, ep, inB e (fun its n z => by rw [d] at z; cases z), d, r⟩
    have kB : K.In (hidT s1.heap H) := fun b o e => by
      refine hidT_get (KX b o e) ?_
      cases q : H b with
      | none => rfl
      | some u =>
        have z := only b u q
        subst z
        rw [apart u q] at e
        cases e
    have md : Mod K mg (hidT s1.heap H) := by
      obtain ⟨mc, l1, l2⟩ := hlim
      exact ⟨kB, nsB hns, ⟨mb, nsB hb, hbb⟩, ⟨mc, nsB l1, l2⟩⟩
    have e0 : Env0 P w K mg (hidT s1.heap H) callerA [] s1 H := ⟨rfl, md, fun b o e => of_hidT e, Nat.le_of_eq (hidT_size _ _), trivial, fun b z => (by cases z), hok, .of_eq hg⟩
    obtain ⟨fd, bd, g⟩ := G (hidT s1.heap H)
    refine codeAny_mono (g.run callerA [] s1 H ⟨[.ref a], []⟩ [.ref a] [.ref a] _ E0 rfl hr e0 (bd s1 [.ref a] KX rfl) (.cons rfl .nil) (hsp H hS)) fun r s' h => ?_
    rcases r with e | fl
    · obtain ⟨_, _, _, _, _, _, _, _, _, _, _, _, z⟩ := h
      exact z.elim
    · cases fl with
      | ret u =>
        obtain ⟨v, H', os, bare, un, hok', rv, q⟩ := h
        obtain rfl : v = .bl true := q
        obtain rfl : u = Value.bool true := rv
        refine ⟨rfl, OldK.of_keep fun b o e => ?_, os, bare⟩
        rcases hS.2 b with z | ⟨ob, xs, z⟩
        · exact un.keep b o e z (fun y => by cases y) (by simp)
        · obtain ⟨e1, _⟩ := hok b _ z
          obtain ⟨e2, _⟩ := hok' b _ (un.frzs b ob _ z)
          rw [e] at e1
          cases e1
          exact e2
      | _ => exact (show False from h).elim
  have rv := vals_ints hi
  have hv : vs.length = ns.length := hi.length
  cases hk : K.lookup a with
  | some o =>
    have e := KX a o hk
    rw [ha] at e
    cases e
    refine go (fun _ => none) ⟨.inr ⟨vs.toArray, _, hk, ?_, by simpa using rv⟩, fun _ => .inl rfl⟩ (fun b u z => by cases z) (fun b u z => by cases z) (fun u z => by cases z)
    rw [List.size_toArray, hv]
    exact hl
  | none =>
    refine go (fun b => if b = a then some (.frz { cls := .type "list", data := .seq vs.toArray } (.lst (ns.map V.int))) else none) ⟨.inl (.inr ⟨_, if_pos rfl⟩), fun b => ?_⟩ (fun b u z => ?_) (fun b u z => ?_) fun _ _ => hk
    · by_cases e : b = a
      · exact .inr ⟨_, _, if_pos e⟩
      · exact .inl (if_neg e)
    · by_cases e : b = a
      · have z2 := (if_pos e).symm.trans z
        cases z2
        subst e
        exact ⟨ha, by rw [List.length_map]; exact hl, vs, _, rv, ha⟩
      · have z2 := (if_neg e).symm.trans z
        cases z2
    · by_cases e : b = a
      · exact e
      · have z2 := (if_neg e).symm.trans z
        cases z2
theorem rpa_ints {K : PySem.W.Frag} {H : Hp} {B : List Addr} : ∀ ns : List Int, RpA K H B (ns.map V.int) (ns.map PyData.int)
  | [] => .nil
  | n :: r => .cons (.int n) (rpa_ints r)
/-! ### a program's defs by rows -/
structure Row where
  fd : FD
  st : Stmt
  /-- keyword-only parameters stand: it is called by forms alone -/
  kwo : Bool := false
def scB (N P : List Str) (sc : Scope) : Bool := decide (sc.kind = .function) && !sc.isCoroutine && !sc.isGenerator && decide N.Nodup && decide (N.take P.length = P) &&
  (P.all fun x => decide (sc.names.lookup x = some .local) || decide (sc.names.lookup x = some .cell)) && (sc.names.all fun y => decide (y.2 ≠ .free))
theorem scB_ok {N P : List Str} {sc : Scope} (h : scB N P sc = true) : FnScope N P sc := by
  unfold scB at h
  simp only [Bool.and_eq_true, decide_eq_true_eq, Bool.not_eq_true', List.all_eq_true, Bool.or_eq_true] at h
  obtain ⟨⟨⟨⟨⟨⟨h1, h2⟩, h3⟩, h4⟩, h5⟩, h6⟩, h7⟩ := h
  exact ⟨h1, h2, h3, h4, h5, h6, h7⟩
/-- what the checker is told of a program -/
structure Pg where
  FN : List Str
  CN : List Str
  BN : List Str
  FH : List Nat
  XN : List (Str × List Str)
  FL : List Str
  CL : List Str
  KF : List KForm
def rowOk (g : Pg) (r : Row) : Bool := scB r.fd.N (r.fd.N.take r.fd.np) (defScope r.st) && decide (r.fd.np ≤ r.fd.N.length) && ckSs ⟨r.fd.N, defScope r.st, fun _ => true, g.FN, g.CN, g.BN, r.fd.hot, g.FH, g.XN, g.FL, g.CL, g.KF⟩ r.fd.body (defBody r.st)
/-! ### classes of exceptions by rows -/
structure XRow where
  name : Str
  B : String
  nw : String
  ini : String
  bn : Str
  fs : List Str
  st : Stmt
  qual : Str
def XRow.N (r : XRow) : List Str := ("self" : Str) :: r.fs
def XRow.d (r : XRow) : He.DefD := ⟨(r.name, some "__init__"), "__init__", r.qual, defArgs r.st, defBody r.st, defScope r.st, [], []⟩
def bsB (B nw ini : String) : Bool := (B == "ValueError" && nw == "ValueError.__new__" && ini == "ValueError.__init__") || (B == "LookupError" && nw == "LookupError.__new__" && ini == "LookupError.__init__")
theorem bsB_ok {B nw ini : String} (h : bsB B nw ini = true) : BsF B nw ini ∧ (tailB B).contains (.type "object") = true ∧ PySem.W.handedIn (.builtin ini) = true := by
  unfold bsB at h
  simp only [Bool.or_eq_true, Bool.and_eq_true, beq_iff_eq] at h
  rcases h with ⟨⟨rfl, rfl⟩, rfl⟩ | ⟨⟨rfl, rfl⟩, rfl⟩
  · exact ⟨bsV, by decide +kernel, by decide +kernel⟩
  · exact ⟨bsL, by decide +kernel, by decide +kernel⟩
/-- by the texts alone -/
def xrowOk (r : XRow) : Bool := bsB r.B r.nw r.ini && scB r.N r.N (defScope r.st) && iniOk r.N (defScope r.st) r.bn r.fs (defBody r.st) && decide (r.fs.length ≤ 100) && decide r.fs.Nodup && !r.fs.isEmpty
def oxB (K : PySem.W.Frag) (C : Addr) (B nw : String) : Bool := match K.lookup C with
  | some ⟨.type "type", _, .cls cd, sl⟩ => (match cd.mro, sl.toList with
    | .ref C2 :: bm, [_, _, _, _, some (.builtin n), _] => C2 == C && n == nw && !cd.hasDel && cd.hasDict && mroB B bm
    | _, _ => false)
  | _ => false
/-- by what lies behind the top -/
def xrB (K : PySem.W.Frag) (r : XRow) : Bool := match PySem.W.nsIn K mainGlobals r.name with
  | some (some (.ref C)) => oxB K C r.B r.nw && He.eqO (PySem.W.findIn K (.ref C) "__setattr__") (some (some (.builtin "object.__setattr__"))) && decide (PySem.W.subIn K (.ref C) (.type "BaseException") = some true) && decide (PySem.W.typeIn K (.ref C) = some (.type "type")) && PySem.W.keepIn K (.ref C) &&
      He.eqO (PySem.W.findIn K (.ref C) "__init__") (some (some (.ref (He.fAd K (r.name, some "__init__"))))) && decide (PySem.W.typeIn K (.ref (He.fAd K (r.name, some "__init__"))) = some (.type "function")) && (r.fs.all fun f => He.eqO (PySem.W.findIn K (.ref C) f) (some none)) &&
      (match PySem.W.nsIn K mainGlobals r.bn with
      | some (some (.ref CS)) => He.eqO (PySem.W.specialIn K (.ref CS) "__getattribute__") (some (some (.builtin "type.__getattribute__"))) && PySem.W.readsIn K CS (.type "type") && (match PySem.W.findCls K (.ref CS) (.type "type") "__init__" with
        | some (.val (.builtin n)) => n == r.ini
        | _ => false)
      | _ => false)
  | _ => false
def XBind (r : XRow) : Prop := ∀ (kV doc pm : Value) (an : Option Addr) (cdv ct : Value) (us : List Value), us.length = r.N.length →
  bindArgs (PySem.W.fnOf "__init__" r.qual (defArgs r.st) (defBody r.st) (defScope r.st) .none kV doc pm an cdv ct) ⟨us, []⟩ = pure (r.N.zip us)
theorem oxB_ok {K : PySem.W.Frag} {C : Addr} {B nw : String} (h : oxB K C B nw = true) : ∃ nm q N bs bm sn sub ab col dd k0 k1 k2 k3 k5, K.lookup C = some (excClassObj nm q C N bs bm true sn sub ab col dd k0 k1 k2 k3 k5 nw) ∧ mroB B bm = true := by
  unfold oxB at h
  split at h
  · rename_i dd cd sl ho
    split at h
    · rename_i C2 bm k0 k1 k2 k3 n k5 hm hs
      simp only [Bool.and_eq_true, beq_iff_eq, Bool.not_eq_true'] at h
      obtain ⟨⟨⟨⟨rfl, rfl⟩, hdel⟩, hdd⟩, ht⟩ := h
      obtain ⟨nm, bs, mro, ns, qn, hd, sn, sub, ab, col, del⟩ := cd
      dsimp only at hm hdel hdd
      subst hm hdel hdd
      have e : sl = #[k0, k1, k2, k3, some (.builtin n), k5] := by
        obtain ⟨l⟩ := sl
        simp only at hs
        rw [hs]
      subst e
      exact ⟨nm, qn, ns, bs, bm, sn, sub, ab, col, dd, k0, k1, k2, k3, k5, ho, ht⟩
    · cases h
  · cases h
theorem xr_made {P : Program} {w : World} {K : PySem.W.Frag} {mg : Str → Option Value} {base h : Heap} {r : XRow} {fd : FuncData} (X : K.In h) (G : h.Ns mainGlobals mg) (h1 : xrowOk r = true) (h2 : xrB K r = true) (hb : XBind r)
    (U : FunD K "__init__" r.qual (defArgs r.st) (defBody r.st) (defScope r.st) [] [] (He.fAd K (r.name, some "__init__")) fd) :
    ∃ C B nw ini fI fd ps, XC K r.name C ∧ mg r.name = some (.ref C) ∧ OxC K C B nw ini ∧ PySem.W.findIn K (.ref C) "__init__" = some (some (.ref fI)) ∧ PySem.W.typeIn K (.ref fI) = some (.type "function") ∧ FnOk P w K mg base CX0 1 fI fd ps (spI C r.fs) ∧ Binds K fd ps [] ∧ r.fs.length ≤ 800 ∧ r.fs.Nodup := by
  unfold xrowOk at h1
  simp only [Bool.and_eq_true, decide_eq_true_eq, Bool.not_eq_true'] at h1
  obtain ⟨⟨⟨⟨⟨a1, a2⟩, a3⟩, a4⟩, a5⟩, a6⟩ := h1
  obtain ⟨b1, b2, b3⟩ := bsB_ok a1
  unfold xrB at h2
  split at h2
  · rename_i C eC
    simp only [Bool.and_eq_true, decide_eq_true_eq, List.all_eq_true] at h2
    obtain ⟨⟨⟨⟨⟨⟨⟨⟨c1, c2⟩, c3⟩, c4⟩, c5⟩, c6⟩, c7⟩, c8⟩, c9⟩ := h2
    split at c9
    · rename_i CS eS
      simp only [Bool.and_eq_true] at c9
      obtain ⟨⟨d1, d2⟩, d3⟩ := c9
      split at d3
      · rename_i n eF
        have e := eq_of_beq d3
        subst e
        have T : OxC K C r.B r.nw r.ini := ⟨b1, b2, oxB_ok c1, He.eqO_ok c2, c3, c4, c5⟩
        have mS := PySem.W.mg_of X G eS
        have S : FnScope r.N r.N (defScope r.st) := scB_ok a2
        refine ⟨C, r.B, r.nw, r.ini, _, fd, r.N, eC, PySem.W.mg_of X G eC, T, He.eqO_ok c6, c7, ?_, FunD.bindsN (ps := r.N) U hb, by omega, a5⟩
        refine FunD.ok (k := 0) U S (fun vs H Q E z => ?_) fun cdv A outer s H vs Q E hr z => ?_
        · obtain ⟨a, ws, rfl, hl, _⟩ := z
          simp [XRow.N, hl]
        · cases ef : r.fs with
          | nil => rw [ef] at a6; cases a6
          | cons f fs =>
            rw [ef] at a3 z
            have few : fs.length ≤ 800 := by rw [ef] at a4; simp at a4; omega
            obtain ⟨t, ht, hq⟩ := ini_ok (X := cxOf CX0 P w K mg base r.N r.qual (defScope r.st) (He.fAd K (r.name, some "__init__")) cdv A outer s H E) T few a3 mS (He.eqO_ok d1) d2 eF b3 (fun g hg => He.eqO_ok (c8 g (by rw [ef]; exact hg)))
            exact ⟨t, ht, hq vs H Q E z⟩
      · cases d3
    · cases c9
  · cases h2
/-! ### which class is under which -/
def cvOf (K : PySem.W.Frag) (n : Str) : Option Value := match PySem.W.nsIn K mainGlobals n with
  | some (some (.ref A)) => some (.ref A)
  | some none => (match bootBuiltins n with
    | some (.type s) => some (.type s)
    | _ => none)
  | _ => none
theorem cvOf_ok {K : PySem.W.Frag} {h : Heap} {mg : Str → Option Value} {n : Str} {cv : Value} (X : K.In h) (G : h.Ns mainGlobals mg) (e : cvOf K n = some cv) : ∃ v, NmV mg n v cv := by
  unfold cvOf at e
  split at e
  · rename_i A eA
    cases e
    exact ⟨.ref A, .inl ⟨A, PySem.W.mg_of X G eA, rfl, rfl⟩⟩
  · rename_i eN
    split at e
    · rename_i s es
      cases e
      exact ⟨.ty s, .inr ⟨s, PySem.W.mg_none_of X G eN, es, rfl, rfl⟩⟩
    · cases e
  · cases e
def excB (K : PySem.W.Frag) (C : Addr) (FL : List Str) : Bool := (PySem.W.clsIn K C).isSome && He.eqO (PySem.W.findIn K (.ref C) "__getattribute__") (some (some (.builtin "BaseException.__getattribute__"))) && He.eqO (PySem.W.findIn K (.ref C) "__getattr__") (some none) && decide (PySem.W.subIn K (.ref C) (.type "BaseException") = some true) && PySem.W.hasDictIn K C &&
  He.eqO (PySem.W.findIn K (.ref C) "__class__") (some (some (.builtin "object.__class__"))) && He.eqO (PySem.W.specialIn K (.builtin "object.__class__") "__get__") (some (some (.builtin "getset_descriptor.__get__"))) && decide (PySem.W.takesIn K (.builtin "object.__class__") = some true) && decide (PySem.W.mroIn K C (.type "object") = some true) && FL.all fun f => He.eqO (PySem.W.findIn K (.ref C) f) (some none)
theorem excB_ok {K : PySem.W.Frag} {C : Addr} {FL : List Str} (h : excB K C FL = true) : (PySem.W.clsIn K C).isSome = true ∧ ExcC K C ∧ ∀ f ∈ FL, PySem.W.findIn K (.ref C) f = some none := by
  unfold excB at h
  simp only [Bool.and_eq_true, decide_eq_true_eq, List.all_eq_true] at h
  obtain ⟨⟨⟨⟨⟨⟨⟨⟨⟨h1, h2⟩, h3⟩, h4⟩, h5⟩, h6⟩, h7⟩, h8⟩, h9⟩, h10⟩ := h
  exact ⟨h1, ⟨He.eqO_ok h2, He.eqO_ok h3, h4, h5, He.eqO_ok h6, He.eqO_ok h7, h8, h9⟩, fun f hf => He.eqO_ok (h10 f hf)⟩
def tabD (ct : List (Str × List Str)) : D := .list (ct.map fun p => .tuple [.str p.1, .list (p.2.map .str)])
theorem strsD_map : ∀ l : List Str, strsD (l.map .str) = l
  | [] => rfl
  | x :: r => by rw [List.map_cons, strsD, strsD_map r]
theorem anc_tab {c : Str} {as : List Str} : ∀ {ct : List (Str × List Str)}, ancD (ct.map fun p => .tuple [.str p.1, .list (p.2.map .str)]) c = some as → (c, as) ∈ ct
  | [], h => by cases h
  | p :: r, h => by
    rw [List.map_cons, ancD] at h
    split at h
    · rename_i e
      rw [strsD_map] at h
      cases h
      rw [← e]
      exact List.mem_cons_self
    · exact List.mem_cons_of_mem _ (anc_tab h)
def eqOB (a : Option Bool) (b : Bool) : Bool := match a with
  | some c => c == b
  | none => false
theorem eqOB_ok {a : Option Bool} {b : Bool} (h : eqOB a b = true) : a = some b := by
  unfold eqOB at h
  split at h
  · rw [eq_of_beq h]
  · cases h
/-- one class c, known to be under those of as, against all -/
def xtB (K : PySem.W.Frag) (ct : List (Str × List Str)) (FL : List Str) : Bool := ct.all fun p => (match cvOf K p.1 with
  | some (.ref C) => excB K C FL && ct.all fun q => (match cvOf K q.1 with
    | some cv => eqOB (PySem.W.kitOne K (.ref C) cv) (decide (q.1 ∈ p.2)) && eqOB (PySem.W.exmOne K (.ref C) cv) (decide (q.1 ∈ p.2))
    | none => false)
  | some (.type _) => true
  | _ => false)
def BindOk (r : Row) : Prop := ∀ (kV doc pm : Value) (an : Option Addr) (cdv ct : Value) (us : List Value), us.length = (r.fd.N.take r.fd.np).length →
  bindArgs (PySem.W.fnOf r.fd.name r.fd.name (defArgs r.st) (defBody r.st) (defScope r.st) .none kV doc pm an cdv ct) ⟨us, []⟩ = pure ((r.fd.N.take r.fd.np).zip us)
def Row.d (r : Row) : He.DefD := ⟨(r.fd.name, none), r.fd.name, r.fd.name, defArgs r.st, defBody r.st, defScope r.st, [], []⟩
def factsOf (rows : List Row) (BN : List Str) : List He.Fa := (rows.map fun r => He.Fa.glo r.fd.name) ++ BN.map He.Fa.free
/-! ### a module's constants -/
/-- the value u, as it lies in K, is the data -/
def datB (K : PySem.W.Frag) : Nat → D → Value → Bool
  | 0, _, _ => false
  | n + 1, d, u => match d, u with
    | .none, .none => true
    | .bool b, .bool c => b == c
    | .int i, .int j _ => decide (i = j)
    | .str x, .str y _ => decide (x = y)
    | .list ds, .ref a => (match K.lookup a with
      | some ⟨.type c, none, .seq its _, sl⟩ => decide (c = "list") && decide (sl = #[]) && decide (its.size ≤ sizeLine) && decide (ds.length = its.toList.length) && (ds.zip its.toList).all fun p => datB K n p.1 p.2
      | _ => false)
    | .tuple ds, .ref a => (match K.lookup a with
      | some ⟨.type c, _, .seq its _, _⟩ => decide (c = "tuple") && decide (its.size ≤ sizeLine) && decide (ds.length = its.toList.length) && (ds.zip its.toList).all fun p => datB K n p.1 p.2
      | _ => false)
    | _, _ => false
theorem datB_ok {K : PySem.W.Frag} : ∀ (n : Nat) (d : D) (u : Value), datB K n d u = true → ∃ z, RelV z u ∧ ∀ H B, Rp K H B z d := by
  intro n
  induction n with
  | zero => intro d u h; simp [datB] at h
  | succ n ih =>
    have many : ∀ (ds : List D) (us : List Value), ds.length = us.length → ((ds.zip us).all fun p => datB K n p.1 p.2) = true → ∃ zs, Vals zs us ∧ ∀ H B, RpA K H B zs ds := by
      intro ds
      induction ds with
      | nil =>
        intro us hl _
        cases us with
        | nil => exact ⟨[], .nil, fun _ _ => .nil⟩
        | cons a r => simp at hl
      | cons d ds ih2 =>
        intro us hl ha
        cases us with
        | nil => simp at hl
        | cons u us =>
          simp only [List.zip_cons_cons, List.all_cons, Bool.and_eq_true] at ha
          obtain ⟨z, r1, r2⟩ := ih d u ha.1
          obtain ⟨zs, q1, q2⟩ := ih2 us (by simpa using hl) ha.2
          exact ⟨z :: zs, .cons r1 q1, fun H B => .cons (r2 H B) (q2 H B)⟩
    intro d u h
    unfold datB at h
    split at h
    · exact ⟨.non, rfl, fun _ _ => .non⟩
    · have e := eq_of_beq h
      subst e
      exact ⟨.bl _, rfl, fun _ _ => .bl _⟩
    · have e := of_decide_eq_true h
      subst e
      exact ⟨.int _, ⟨_, rfl⟩, fun _ _ => .int _⟩
    · have e := of_decide_eq_true h
      subst e
      exact ⟨.str _, ⟨_, rfl⟩, fun _ _ => .str _⟩
    · split at h
      · rename_i a c its m sl q
        simp only [Bool.and_eq_true, decide_eq_true_eq] at h
        obtain ⟨⟨⟨⟨rfl, rfl⟩, h3⟩, h4⟩, h5⟩ := h
        obtain ⟨zs, q1, q2⟩ := many _ _ h4 h5
        exact ⟨.ref _, rfl, fun H B => .lst (.inr ⟨its, m, q, h3, q1⟩) (q2 H B)⟩
      · cases h
    · split at h
      · rename_i a c dd its m sl q
        simp only [Bool.and_eq_true, decide_eq_true_eq] at h
        obtain ⟨⟨⟨rfl, h3⟩, h4⟩, h5⟩ := h
        obtain ⟨zs, q1, q2⟩ := many _ _ h4 h5
        exact ⟨.ref _, rfl, fun H B => .tup (.inr ⟨_, its, m, q, rfl, rfl, h3, q1⟩) (q2 H B)⟩
      · cases h
    · cases h
def exC (CN : List Str) (cs : List D) (K : PySem.W.Frag) : Bool := (CN.zip cs).all fun p => match PySem.W.nsIn K mainGlobals p.1 with
  | some (some u) => datB K 9 p.2 u
  | _ => false
theorem exC_ok {CN : List Str} {cs : List D} (K : PySem.W.Frag) (h : Heap) (mg : Str → Option Value) (X : K.In h) (G : h.Ns mainGlobals mg) (e : exC CN cs K = true) (i : Nat) (x : Str) (v : D) (h1 : CN[i]? = some x) (h2 : cs[i]? = some v) : ∃ u z, mg x = some u ∧ RelV z u ∧ ∀ H B, Rp K H B z v := by
  unfold exC at e
  have mem : (x, v) ∈ CN.zip cs := by
    refine List.mem_of_getElem? (i := i) ?_
    rw [List.getElem?_zip_eq_some]
    exact ⟨h1, h2⟩
  have q := List.all_eq_true.mp e _ mem
  simp only at q
  split at q
  · rename_i u hu
    obtain ⟨z, r1, r2⟩ := datB_ok _ _ _ q
    exact ⟨u, z, PySem.W.mg_of X G hu, r1, r2⟩
  · cases q
/-! ### a whole program -/
structure Whole where
  rows : List Row
  xrows : List XRow
  CN : List Str
  cs : List D
  BN : List Str
  FL : List Str
  ct : List (Str × List Str)
  kf : List KForm := []
def Row.kind (r : Row) : Nat := if r.kwo then 2 else if r.fd.hot then 1 else 0
/-- the defaults of a form, as they lie behind the top -/
def kfB (K : PySem.W.Frag) (cs : List D) (q : KForm) : Bool := match dfsD cs q.arr with
  | some ds => decide (ds.length = q.ms.length) && (q.ms.isEmpty || (match K.lookup (He.fAd K (q.name, none)) with
    | some ⟨_, _, .func fd, _⟩ => (match fd.kwdefaults with
      | .ref D => (q.ms.zip ds).all fun p => (match PySem.W.nsIn K D p.1 with
        | some (some u) => datB K 9 p.2 u
        | _ => false)
      | _ => false)
    | _ => false))
  | none => false
/-- how a form binds, by the text -/
def KfBind (r : Row) (q : KForm) : Prop := ∀ (kV : Value) (D : Addr) (doc pm : Value) (an : Option Addr) (cdv ct : Value) (us ws mv : List Value), (q.ms ≠ [] → kV = .ref D) → us.length = q.np → ws.length = q.ks.length → mv.length = q.ms.length →
  KwChain D (q.ms.zip mv) (bindArgs (PySem.W.fnOf r.fd.name r.fd.name (defArgs r.st) (defBody r.st) (defScope r.st) .none kV doc pm an cdv ct) ⟨us, q.ks.zip ws⟩) ((r.fd.N.take r.fd.np).zip (kaU .none q.arr (us ++ ws) mv))
structure KfOk (rows : List Row) (q : KForm) : Prop where
  ex : ∃ r, rows[q.f]? = some r ∧ q.name = r.fd.name ∧ r.fd.hot = false ∧ q.arr.length = r.fd.np ∧ KfBind r q
theorem dat_all {K : PySem.W.Frag} {D : Addr} : ∀ {ms : List Str} {ds : List PyData}, ds.length = ms.length → ((ms.zip ds).all fun p => (match PySem.W.nsIn K D p.1 with
      | some (some u) => datB K 9 p.2 u
      | _ => false)) = true → ∃ (mv : List Value) (mz : List V), mv.length = ms.length ∧ Vals mz mv ∧ (∀ H B, RpA K H B mz ds) ∧ ∀ q ∈ ms.zip mv, PySem.W.nsIn K D q.1 = some (some q.2)
  | [], [], _, _ => ⟨[], [], rfl, .nil, fun _ _ => .nil, fun q hq => by cases hq⟩
  | [], _ :: _, h, _ => by cases h
  | _ :: _, [], h, _ => by cases h
  | m :: ms, d :: ds, hl, h => by
    simp only [List.zip_cons_cons, List.all_cons, Bool.and_eq_true] at h
    obtain ⟨h1, h2⟩ := h
    obtain ⟨mv, mz, a1, a2, a3, a4⟩ := dat_all (by simpa using hl) h2
    split at h1
    · rename_i u eu
      obtain ⟨z, z1, z2⟩ := datB_ok _ _ _ h1
      refine ⟨u :: mv, z :: mz, by simp [a1], .cons z1 a2, fun H B => .cons (z2 H B) (a3 H B), fun q hq => ?_⟩
      rw [List.zip_cons_cons] at hq
      rcases List.mem_cons.mp hq with rfl | hq
      · exact eu
      · exact a4 q hq
    · cases h1
theorem kbq_of {K : PySem.W.Frag} {cs : List D} {rows : List Row} {q : KForm} {r : Row} {fd : FuncData} (ho : KfOk rows q) (hr : rows[q.f]? = some r) (hn : r.fd.np ≤ r.fd.N.length) (hk : kfB K cs q = true)
    (U : FunD K r.fd.name r.fd.name (defArgs r.st) (defBody r.st) (defScope r.st) [] [] (He.fAd K (r.fd.name, none)) fd) : KBq K cs fd (r.fd.N.take r.fd.np) q := by
  obtain ⟨r2, e1, e2, e3, e4, e5⟩ := ho.ex
  rw [hr] at e1
  cases e1
  obtain ⟨oc, od, dV, kV, doc, pm, an, cdv, ct, osl, rfl, lk, hcd, hD, _⟩ := U.ex
  have dn : dV = .none := by
    rcases hD with ⟨_, e⟩ | ⟨e, _⟩
    · exact e
    · exact absurd rfl e
  subst dn
  unfold kfB at hk
  cases ed : dfsD cs q.arr with
  | none => rw [ed] at hk; cases hk
  | some ds =>
    rw [ed] at hk
    simp only [Bool.and_eq_true, decide_eq_true_eq, Bool.or_eq_true] at hk
    obtain ⟨hl, hk⟩ := hk
    have go : ∀ (D : Addr) (mv : List Value) (mz : List V), (q.ms ≠ [] → kV = .ref D) → mv.length = q.ms.length → Vals mz mv → (∀ H B, RpA K H B mz ds) → (∀ p ∈ q.ms.zip mv, PySem.W.nsIn K D p.1 = some (some p.2)) → KBq K cs (PySem.W.fnOf r.fd.name r.fd.name (defArgs r.st) (defBody r.st) (defScope r.st) .none kV doc pm an cdv ct) (r.fd.N.take r.fd.np) q := by
      intro D mv mz hV ml mr mp mk
      refine ⟨mv, mz, ds, mr, ed, mp, by rw [e4, List.length_take]; omega, fun s us ws X l1 l2 => ?_⟩
      exact BindsTo.of_looks fun M => KwChain.looks X mk (e5 kV D doc pm an cdv ct us ws mv hV l1 l2 ml)
    rcases hk with hk | hk
    · have em : q.ms = [] := by simpa using hk
      have d0 : ds = [] := by
        rw [em] at hl
        exact List.eq_nil_of_length_eq_zero hl
      subst d0
      exact go 0 [] [] (fun z => absurd em z) (by rw [em]; rfl) .nil (fun _ _ => .nil) (fun p hp => by rw [em] at hp; cases hp)
    · rw [e2, lk] at hk
      simp only at hk
      split at hk
      · rename_i D _
        obtain ⟨mv, mz, a1, a2, a3, a4⟩ := dat_all hl hk
        exact go D mv mz (fun _ => rfl) a1 a2 a3 a4
      · cases hk
def Whole.pg (g : Whole) : Pg := ⟨g.rows.map (·.fd.name), g.CN, g.BN, g.rows.map Row.kind, g.xrows.map fun r => (r.name, r.fs), g.FL, g.ct.map (·.1), g.kf⟩
def Whole.defs (g : Whole) : List He.DefD := g.rows.map Row.d ++ g.xrows.map XRow.d
def Whole.facts (g : Whole) : List He.Fa := (g.rows.map fun r => He.Fa.glo r.fd.name) ++ g.BN.map He.Fa.free
def Whole.more (g : Whole) (K : PySem.W.Frag) : Bool := exC g.CN g.cs K && xtB K g.ct g.FL && g.xrows.all (xrB K) && g.kf.all (kfB K g.cs)
structure Whole.Ok (g : Whole) : Prop where
  rok : g.rows.all (rowOk g.pg) = true
  bok : ∀ r ∈ g.rows, r.kwo = false → BindOk r
  kok : ∀ q ∈ g.kf, KfOk g.rows q
  xok : g.xrows.all xrowOk = true
  xbd : ∀ r ∈ g.xrows, XBind r
  tab : g.cs.getLast? = some (tabD g.ct)
/-- the hook: the defs, the names, one Bool more -/
def saysX (g : Whole) (K : PySem.W.Frag) : Prop := He.SaysD g.facts g.defs K ∧ g.more K = true
/-- what the names reach in n steps, and the interpreter's own table -/
def asX (h : Addr → Option Obj) (n : Nat) : List Addr := He.asD h n ++ [cStatics]
def obsX (n : Nat) (g : Whole) (h : Addr → Option Obj) : He.AlD × Bool := (He.obsD g.facts g.defs (He.frG h (asX h n)), g.more (He.frG h (asX h n)))
def hookX (n : Nat) (g : Whole) : PySem.W.Hook where
  α := He.AlD × Bool
  obs := fun s => obsX n g s.heap.get?
  val := fun _ => (He.valD g.defs, true)
  says := fun _ h => ∃ K : PySem.W.Frag, K.In h ∧ saysX g K
  of := fun _ _ e => ⟨_, He.frG_in, congrArg Prod.fst e, congrArg Prod.snd e⟩
  keeps := fun _ _ _ ⟨K, hK, c⟩ k => ⟨K, PySem.W.Frag.In.keeps hK k, c⟩
theorem obsX_eq {n : Nat} {g : Whole} {h : Addr → Option Obj} {s : Shared} (e : ∀ a, h a = s.heap.get? a) : obsX n g h = (hookX n g).obs s := by
  have e : h = s.heap.get? := funext e
  rw [e]
  rfl
theorem cl_mem {ct : List (Str × List Str)} {n : Str} (h : n ∈ ct.map (·.1)) : ∃ as, (n, as) ∈ ct := by
  obtain ⟨p, h1, rfl⟩ := List.mem_map.mp h
  exact ⟨p.2, h1⟩
theorem xt_of {P : Program} {w : World} {K : PySem.W.Frag} {h base : Heap} {mg : Str → Option Value} {g : Whole} (X : K.In h) (G : h.Ns mainGlobals mg) (c : saysX g K) (o : g.Ok) : XT P w K mg base g.cs g.pg.XN g.pg.FL g.pg.CL := by
  have m := c.2
  unfold Whole.more at m
  simp only [Bool.and_eq_true] at m
  obtain ⟨⟨⟨_, m2⟩, m3⟩, _⟩ := m
  have ctE : ctOf g.cs = g.ct.map fun p => .tuple [.str p.1, .list (p.2.map .str)] := by
    unfold ctOf
    rw [o.tab]
    rfl
  have row : ∀ p, p ∈ g.ct → _ := fun p hp => List.all_eq_true.mp (show g.ct.all _ = true from m2) p hp
  have own : ∀ {c : Str} {as : List Str} {C : Addr}, (c, as) ∈ g.ct → XC K c C → cvOf K c = some (.ref C) := fun {c as C} hp xc => by
    unfold cvOf
    unfold XC at xc
    rw [xc]
  refine ⟨fun n hn => ?_, fun c fs hc => ?_, fun c n b C e xc => ?_, fun c as C e xc => ?_⟩
  · obtain ⟨as, hm⟩ := cl_mem hn
    have q := row _ hm
    simp only at q
    split at q
    · rename_i C eC
      obtain ⟨v, hv⟩ := cvOf_ok X G eC
      exact ⟨v, _, hv⟩
    · rename_i s eC
      obtain ⟨v, hv⟩ := cvOf_ok X G eC
      exact ⟨v, _, hv⟩
    · cases q
  · obtain ⟨r, hr, e⟩ := List.mem_map.mp hc
    cases e
    obtain ⟨i, hi⟩ := List.mem_iff_getElem?.mp hr
    obtain ⟨fd, U⟩ := c.1.def_ (g.rows.length + i) (d := r.d) (by
      unfold Whole.defs
      rw [List.getElem?_append_right (by rw [List.length_map]; omega), List.length_map, Nat.add_sub_cancel_left, List.getElem?_map, hi]
      rfl)
    exact xr_made X G (List.all_eq_true.mp o.xok r hr) (List.all_eq_true.mp m3 r hr) (o.xbd r hr) U
  · unfold xsub at e
    rw [ctE] at e
    cases e1 : ancD (g.ct.map fun p => .tuple [.str p.1, .list (p.2.map .str)]) c with
    | none => rw [e1] at e; cases e
    | some as =>
      cases e2 : ancD (g.ct.map fun p => .tuple [.str p.1, .list (p.2.map .str)]) n with
      | none => rw [e1, e2] at e; cases e
      | some bs =>
        rw [e1, e2] at e
        cases e
        have q := row _ (anc_tab e1)
        simp only at q
        rw [own (anc_tab e1) xc] at q
        simp only [Bool.and_eq_true, List.all_eq_true] at q
        have q2 := q.2 _ (anc_tab e2)
        simp only at q2
        split at q2
        · rename_i cv ecv
          simp only [Bool.and_eq_true] at q2
          obtain ⟨v, hv⟩ := cvOf_ok X G ecv
          exact ⟨v, cv, hv, eqOB_ok q2.1, eqOB_ok q2.2⟩
        · cases q2
  · rw [ctE] at e
    have q := row _ (anc_tab e)
    simp only at q
    rw [own (anc_tab e) xc] at q
    simp only [Bool.and_eq_true] at q
    exact excB_ok q.1
theorem ft_of {K : PySem.W.Frag} {h : Heap} {mg : Str → Option Value} {g : Whole} (X : K.In h) (G : h.Ns mainGlobals mg) (c : saysX g K) (o : g.Ok) : FT K mg g.cs (g.rows.map (·.fd)) g.pg.FH g.CN g.BN g.pg.XN g.pg.FL g.pg.CL g.kf := by
  have m := c.2
  unfold Whole.more at m
  simp only [Bool.and_eq_true] at m
  have kd : ∀ (f : Nat) (d : FD), (g.rows.map (·.fd))[f]? = some d → ∃ r, g.rows[f]? = some r ∧ d = r.fd ∧ g.pg.FH[f]? = some r.kind := fun f d hd => by
    rw [List.getElem?_map] at hd
    obtain ⟨r, hr, rfl⟩ := Option.map_eq_some_iff.mp hd
    exact ⟨r, hr, rfl, by show (g.rows.map Row.kind)[f]? = _; rw [List.getElem?_map, hr]; rfl⟩
  refine ⟨fun f d hd => ?_, fun f d hd e => ?_, fun f d hd e => ?_, fun j q hq => ?_, fun P w base => xt_of X G c o, fun x hx => ?_, exC_ok K h mg X G m.1.1.1⟩
  · obtain ⟨r, hr, rfl, hk⟩ := kd f d hd
    have mem : r ∈ g.rows := List.mem_of_getElem? hr
    have q := List.all_eq_true.mp o.rok r mem
    unfold rowOk at q
    simp only [Bool.and_eq_true, decide_eq_true_eq] at q
    obtain ⟨⟨q1, q2⟩, q3⟩ := q
    have lt := (List.getElem?_eq_some_iff.mp hr).1
    obtain ⟨fd, U⟩ := c.1.def_ f (d := r.d) (by
      unfold Whole.defs
      rw [List.getElem?_append_left (by rw [List.length_map]; exact lt), List.getElem?_map, hr]
      rfl)
    have g1 : mg r.fd.name = some (.ref (He.ga K r.fd.name)) := He.glo_ok X G (c.1.fact f (f := .glo r.fd.name) (by
      unfold Whole.facts
      rw [List.getElem?_append_left (by rw [List.length_map]; exact lt), List.getElem?_map, hr]
      rfl))
    refine ⟨r.st, He.ga K r.fd.name, fd, U, g1, fun hz => ?_, fun j q hq hf => ?_, scB_ok q1, q2, by rw [List.map_map]; exact q3⟩
    · have kw : r.kwo = false := by
        rw [hk] at hz
        unfold Row.kind at hz
        cases e : r.kwo with
        | false => rfl
        | true => rw [e] at hz; simp at hz
      exact FunD.bindsN (ps := r.fd.N.take r.fd.np) U (o.bok r mem kw)
    · have hm : q ∈ g.kf := List.mem_of_getElem? hq
      exact kbq_of (o.kok q hm) (by rw [hf]; exact hr) q2 (List.all_eq_true.mp m.2 q hm) U
  · obtain ⟨r, hr, rfl, hk⟩ := kd f d hd
    rw [hk] at e
    unfold Row.kind at e
    cases e1 : r.fd.hot with
    | false => rfl
    | true =>
      cases e2 : r.kwo with
      | false => rw [e1, e2] at e; simp at e
      | true => rw [e1, e2] at e; simp at e
  · obtain ⟨r, hr, rfl, hk⟩ := kd f d hd
    rw [hk] at e
    unfold Row.kind at e
    cases e1 : r.fd.hot with
    | true => rfl
    | false =>
      cases e2 : r.kwo with
      | false => rw [e1, e2] at e; simp at e
      | true => rw [e1, e2] at e; simp at e
  · obtain ⟨r, e1, e2, e3, e4, e5⟩ := (o.kok q (List.mem_of_getElem? hq)).ex
    exact ⟨r.fd, by rw [List.getElem?_map, e1]; rfl, e2, e3⟩
  · have : He.Fa.free x ∈ g.facts := List.mem_append_right _ (List.mem_map.mpr ⟨x, hx, rfl⟩)
    obtain ⟨i, hi⟩ := List.mem_iff_getElem?.mp this
    exact He.free_ok X G (c.1.fact i hi)
/-- the end of a law: its own function tells True at every script -/
theorem law_end {l : PySem.W.OpenLaw} {k W f : Nat} {q : Program} {loose : List Str} {XP : (Str → Option Value) → Heap → Prop} {n : Nat} {g : Whole} {d : DefRec} {x : Str} {rL : Row}
    (hn : l.most = some 63) (hdf : d.params.defaults = []) (hr : Room (k + 2) callerA) (hf : g.rows[f]? = some rL) (hnm : rL.fd.name = d.name) (hps : rL.fd.N.take rL.fd.np = [x]) (hh : rL.fd.hot = false) (hkw : rL.kwo = false) (o : g.Ok)
    (run : ∀ ns : List Int, ns.length ≤ 63 → ∃ st, callF g.cs (g.rows.map (·.fd)) W k f [.d (.list (ns.map .int))] [] = .ok (.d (.bool true)) st) :
    PySem.W.WalkO q loose XP (hookX n g).says l.row.toRowW d [] (fun f vs => PySem.call f vs) := by
  refine Att.attach_call hn hdf fun w s0 s1 mg mb fa o1 pm cd doc a vs ns G Y ho hd hcd hmg hobj hints hlen hg => ?_
  obtain ⟨K, KX, c⟩ := Y
  have X := ft_of KX G.T.g c o
  have hfd : (g.rows.map (·.fd))[f]? = some rL.fd := by rw [List.getElem?_map, hf]; rfl
  refine law_go (k := k + 2) (x := x) (sp := spF ⟨K, none⟩ (callF g.cs (g.rows.map (·.fd)) W k f)) KX G.T.g G.T.b G.T.builtins G.T.nolimit hg hobj hints (Nat.le_trans hlen (by decide)) hr (fun base => ?_) fun H hS => ?_
  · obtain ⟨fa2, fd, m, kp, b, _, g1, _⟩ := (fns_ok (P := l.prog) (w := w) (base := base) (W := W) X k f rL.fd hfd).ex
    have b := b (.inl (by
      show (g.rows.map Row.kind)[f]? = _
      rw [List.getElem?_map, hf]
      show some rL.kind = _
      unfold Row.kind
      rw [hkw, hh]
      rfl))
    rw [hnm, hmg] at m
    cases m
    rw [hps] at b g1
    exact ⟨fd, b, g1 hh⟩
  · obtain ⟨st, e⟩ := run ns hlen
    obtain ⟨h1, h2⟩ := hS
    refine ⟨[], [], [], [.d (.list (ns.map .int))], ⟨rfl, List.nodup_nil, fun n o a z => by simp at z, fun a z => nomatch z⟩, .cons (show Rp K H ([] ++ []) _ _ from .lst (h1.imp_left fun z => ⟨z, by simp⟩) (rpa_ints ns)) .nil, ?_⟩
    rw [e]
    intro ρ' v H' n' s' r'
    cases r'
    rfl
end Ev
end
section
/-! plain mathematics of fractions -/
namespace Fr
/-- in lowest terms, below a bound -/
def IsF (p : Int × Int) : Prop := 0 < p.2 ∧ Int.gcd p.1 p.2 = 1
/-- the fraction that a parted by b is -/
def low (a b : Int) : Int × Int := if b < 0 then ((0 - a) / (Int.gcd a b : Int), (0 - b) / (Int.gcd a b : Int)) else (a / (Int.gcd a b : Int), b / (Int.gcd a b : Int))
theorem gcd_pos {a b : Int} (h : b ≠ 0) : 0 < (Int.gcd a b : Int) := by
  have := Int.gcd_pos_of_ne_zero_right a h
  omega
theorem low_spec {a b : Int} (h : b ≠ 0) : IsF (low a b) ∧ (low a b).1 * b = a * (low a b).2 := by
  have g := gcd_pos (a := a) h
  have g0 : Int.gcd a b ≠ 0 := by omega
  obtain ⟨x, hx⟩ := Int.gcd_dvd_left (a := a) (b := b)
  obtain ⟨y, hy⟩ := Int.gcd_dvd_right (a := a) (b := b)
  have co : Int.gcd x y = 1 := by
    have e : Int.gcd ((Int.gcd a b : Int) * x) ((Int.gcd a b : Int) * y) = Int.gcd a b := by
      rw [← hx, ← hy]
    rw [Int.gcd_mul_left] at e
    simp only [Int.natAbs_natCast] at e
    exact Nat.eq_of_mul_eq_mul_left (Nat.pos_of_ne_zero g0) (by rw [e, Nat.mul_one])
  unfold low IsF
  generalize hG : (Int.gcd a b : Int) = G at *
  have gn : G ≠ 0 := by omega
  split
  · rename_i hb
    have e1 : (0 - a) / G = -x := by
      rw [hx, show (0 - G * x) = G * (-x) by grind]
      exact Int.mul_ediv_cancel_left _ gn
    have e2 : (0 - b) / G = -y := by
      rw [hy, show (0 - G * y) = G * (-y) by grind]
      exact Int.mul_ediv_cancel_left _ gn
    simp only [e1, e2]
    refine ⟨⟨?_, by simpa using co⟩, by rw [hx, hy]; grind⟩
    have : G * y < 0 := by rw [← hy]; exact hb
    have hy2 : y < 0 := by
      rcases Int.lt_trichotomy y 0 with z | z | z
      · exact z
      · rw [z] at this; simp at this
      · have := Int.mul_pos g z; omega
    omega
  · rename_i hb
    have e1 : a / G = x := by
      rw [hx]; exact Int.mul_ediv_cancel_left _ gn
    have e2 : b / G = y := by
      rw [hy]; exact Int.mul_ediv_cancel_left _ gn
    simp only [e1, e2]
    refine ⟨⟨?_, co⟩, by rw [hx, hy]; grind⟩
    have : 0 < G * y := by rw [← hy]; omega
    rcases Int.lt_trichotomy y 0 with z | z | z
    · have : G * y < 0 := Int.mul_neg_of_pos_of_neg g z
      omega
    · rw [z] at this; simp at this
    · exact z
theorem dvd_of {a b c : Int} (h : a ∣ b * c) (g : Int.gcd b a = 1) : a ∣ c := by
  have h1 : a.natAbs ∣ b.natAbs * c.natAbs := by
    rw [← Int.natAbs_mul]
    exact Int.natAbs_dvd_natAbs.mpr h
  have h2 : Nat.Coprime a.natAbs b.natAbs := by
    show Nat.gcd _ _ = 1
    rw [Nat.gcd_comm]
    exact g
  exact Int.natAbs_dvd_natAbs.mp (h2.dvd_of_dvd_mul_left h1)
theorem IsF.eq {p q : Int × Int} (hp : IsF p) (hq : IsF q) (h : p.1 * q.2 = q.1 * p.2) : p = q := by
  obtain ⟨p1, p2⟩ := p
  obtain ⟨q1, q2⟩ := q
  obtain ⟨a1, a2⟩ := hp
  obtain ⟨b1, b2⟩ := hq
  simp only at *
  have d1 : p2 ∣ q2 := by
    have : p2 ∣ p1 * q2 := ⟨q1, by rw [h]; grind⟩
    exact dvd_of this a2
  have d2 : q2 ∣ p2 := by
    have : q2 ∣ q1 * p2 := ⟨p1, by rw [← h]; grind⟩
    exact dvd_of this b2
  have e : p2 = q2 := Int.dvd_antisymm (by omega) (by omega) d1 d2
  subst e
  have : p1 = q1 := Int.eq_of_mul_eq_mul_right (by omega) h
  rw [this]
/-! ### sums, products -/
def add (p q : Int × Int) : Int × Int := low (p.1 * q.2 + q.1 * p.2) (p.2 * q.2)
def sub (p q : Int × Int) : Int × Int := low (p.1 * q.2 - q.1 * p.2) (p.2 * q.2)
def mul (p q : Int × Int) : Int × Int := low (p.1 * q.1) (p.2 * q.2)
def div (p q : Int × Int) : Int × Int := low (p.1 * q.2) (p.2 * q.1)
/-- the value: p is a over b -/
def Val (p : Int × Int) (a b : Int) : Prop := IsF p ∧ p.1 * b = a * p.2
theorem IsF.ne {p : Int × Int} (h : IsF p) : p.2 ≠ 0 := by
  have := h.1
  omega
theorem low_val {a b : Int} (h : b ≠ 0) : Val (low a b) a b := low_spec h
theorem Val.eq {p q : Int × Int} {a b c d : Int} (hp : Val p a b) (hq : Val q c d) (hb : b ≠ 0) (hd : d ≠ 0) (h : a * d = c * b) : p = q := by
  refine hp.1.eq hq.1 ?_
  have e1 := hp.2
  have e2 := hq.2
  have : (p.1 * q.2) * (b * d) = (q.1 * p.2) * (b * d) := by
    calc (p.1 * q.2) * (b * d) = (p.1 * b) * d * q.2 := by grind
      _ = (a * d) * p.2 * q.2 := by rw [e1]; grind
      _ = (c * q.2) * b * p.2 := by rw [h]; grind
      _ = (q.1 * d) * b * p.2 := by rw [e2]
      _ = (q.1 * p.2) * (b * d) := by grind
  exact Int.eq_of_mul_eq_mul_right (Int.mul_ne_zero hb hd) this
theorem IsF.val {p : Int × Int} (h : IsF p) : Val p p.1 p.2 := ⟨h, rfl⟩
/-- a value by another pair -/
theorem Val.of {p : Int × Int} {a b c d : Int} (h : Val p a b) (hb : b ≠ 0) (e : a * d = c * b) : Val p c d := by
  refine ⟨h.1, ?_⟩
  have e1 := h.2
  have : (p.1 * d) * b = (c * p.2) * b := by
    calc (p.1 * d) * b = (p.1 * b) * d := by grind
      _ = (a * d) * p.2 := by rw [e1]; grind
      _ = (c * p.2) * b := by rw [e]; grind
  exact Int.eq_of_mul_eq_mul_right hb this
theorem Val.add {p q : Int × Int} {a b c d : Int} (hp : Val p a b) (hq : Val q c d) (hb : b ≠ 0) (hd : d ≠ 0) : Val (Fr.add p q) (a * d + c * b) (b * d) := by
  have n1 := hp.1.ne
  have n2 := hq.1.ne
  have e1 := hp.2
  have e2 := hq.2
  refine (low_val (Int.mul_ne_zero n1 n2)).of (Int.mul_ne_zero n1 n2) ?_
  calc (p.1 * q.2 + q.1 * p.2) * (b * d) = (p.1 * b) * q.2 * d + (q.1 * d) * p.2 * b := by grind
    _ = (a * d + c * b) * (p.2 * q.2) := by rw [e1, e2]; grind
theorem Val.sub {p q : Int × Int} {a b c d : Int} (hp : Val p a b) (hq : Val q c d) (hb : b ≠ 0) (hd : d ≠ 0) : Val (Fr.sub p q) (a * d - c * b) (b * d) := by
  have n1 := hp.1.ne
  have n2 := hq.1.ne
  have e1 := hp.2
  have e2 := hq.2
  refine (low_val (Int.mul_ne_zero n1 n2)).of (Int.mul_ne_zero n1 n2) ?_
  calc (p.1 * q.2 - q.1 * p.2) * (b * d) = (p.1 * b) * q.2 * d - (q.1 * d) * p.2 * b := by grind
    _ = (a * d - c * b) * (p.2 * q.2) := by rw [e1, e2]; grind
theorem Val.mul {p q : Int × Int} {a b c d : Int} (hp : Val p a b) (hq : Val q c d) (hb : b ≠ 0) (hd : d ≠ 0) : Val (Fr.mul p q) (a * c) (b * d) := by
  have n1 := hp.1.ne
  have n2 := hq.1.ne
  have e1 := hp.2
  have e2 := hq.2
  refine (low_val (Int.mul_ne_zero n1 n2)).of (Int.mul_ne_zero n1 n2) ?_
  calc (p.1 * q.1) * (b * d) = (p.1 * b) * (q.1 * d) := by grind
    _ = (a * c) * (p.2 * q.2) := by rw [e1, e2]; grind
theorem Val.ne0 {p : Int × Int} {a b : Int} (h : Val p a b) (hb : b ≠ 0) (hp : p.1 ≠ 0) : a ≠ 0 := by
  intro z
  have e := h.2
  rw [z, Int.zero_mul] at e
  exact (Int.mul_ne_zero hp hb) e
theorem Val.div {p q : Int × Int} {a b c d : Int} (hp : Val p a b) (hq : Val q c d) (hb : b ≠ 0) (hd : d ≠ 0) (h0 : q.1 ≠ 0) : Val (Fr.div p q) (a * d) (b * c) := by
  have n1 := hp.1.ne
  have e1 := hp.2
  have e2 := hq.2
  refine (low_val (Int.mul_ne_zero n1 h0)).of (Int.mul_ne_zero n1 h0) ?_
  calc (p.1 * q.2) * (b * c) = (p.1 * b) * (c * q.2) := by grind
    _ = (a * p.2) * (q.1 * d) := by rw [e1, ← e2]
    _ = (a * d) * (p.2 * q.1) := by grind
/-! ### sizes -/
def Sz (m : Nat) (p : Int × Int) : Prop := p.1.natAbs < 2 ^ m ∧ p.2.natAbs < 2 ^ m
theorem natAbs_ediv_le (a : Int) {g : Int} (hg : 0 < g) (hd : g ∣ a) : (a / g).natAbs ≤ a.natAbs := by
  obtain ⟨x, rfl⟩ := hd
  rw [Int.mul_ediv_cancel_left _ (by omega), Int.natAbs_mul]
  have : 1 ≤ g.natAbs := by omega
  exact Nat.le_mul_of_pos_left _ this
theorem low_le {a b : Int} (h : b ≠ 0) : (low a b).1.natAbs ≤ a.natAbs ∧ (low a b).2.natAbs ≤ b.natAbs := by
  have g := gcd_pos (a := a) h
  have d1 : (Int.gcd a b : Int) ∣ a := Int.gcd_dvd_left ..
  have d2 : (Int.gcd a b : Int) ∣ b := Int.gcd_dvd_right ..
  unfold low
  split
  · refine ⟨?_, ?_⟩
    · have := natAbs_ediv_le (0 - a) g (by rw [Int.zero_sub]; exact Int.dvd_neg.mpr d1)
      simpa using this
    · have := natAbs_ediv_le (0 - b) g (by rw [Int.zero_sub]; exact Int.dvd_neg.mpr d2)
      simpa using this
  · exact ⟨natAbs_ediv_le a g d1, natAbs_ediv_le b g d2⟩
theorem mul_lt {a b : Int} {m n : Nat} (ha : a.natAbs < 2 ^ m) (hb : b.natAbs < 2 ^ n) : (a * b).natAbs < 2 ^ (m + n) := by
  rw [Int.natAbs_mul, Nat.pow_add]
  exact Nat.mul_lt_mul'' ha hb
theorem add_lt {a b : Int} {m : Nat} (ha : a.natAbs < 2 ^ m) (hb : b.natAbs < 2 ^ m) : (a + b).natAbs < 2 ^ (m + 1) := by
  have := Int.natAbs_add_le a b
  rw [Nat.pow_succ]
  omega
theorem sub_lt {a b : Int} {m : Nat} (ha : a.natAbs < 2 ^ m) (hb : b.natAbs < 2 ^ m) : (a - b).natAbs < 2 ^ (m + 1) := by
  rw [Nat.pow_succ]
  omega
theorem lt_mono {a : Int} {m n : Nat} (h : a.natAbs < 2 ^ m) (hm : m ≤ n) : a.natAbs < 2 ^ n := Nat.lt_of_lt_of_le h (Nat.pow_le_pow_right (by decide) hm)
theorem Sz.mono {p : Int × Int} {m n : Nat} (h : Sz m p) (hm : m ≤ n) : Sz n p := ⟨lt_mono h.1 hm, lt_mono h.2 hm⟩
theorem Sz.low {a b : Int} {m : Nat} (h : b ≠ 0) (ha : a.natAbs < 2 ^ m) (hb : b.natAbs < 2 ^ m) : Sz m (Fr.low a b) := ⟨Nat.lt_of_le_of_lt (low_le h).1 ha, Nat.lt_of_le_of_lt (low_le h).2 hb⟩
theorem Sz.add {p q : Int × Int} {m n : Nat} (hp : IsF p) (hq : IsF q) (h : Sz m p) (h' : Sz n q) : Sz (m + n + 1) (Fr.add p q) :=
  Sz.low (Int.mul_ne_zero hp.ne hq.ne) (add_lt (mul_lt h.1 h'.2) (by rw [Nat.add_comm]; exact mul_lt h'.1 h.2)) (lt_mono (mul_lt h.2 h'.2) (by omega))
theorem Sz.sub {p q : Int × Int} {m n : Nat} (hp : IsF p) (hq : IsF q) (h : Sz m p) (h' : Sz n q) : Sz (m + n + 1) (Fr.sub p q) :=
  Sz.low (Int.mul_ne_zero hp.ne hq.ne) (sub_lt (mul_lt h.1 h'.2) (by rw [Nat.add_comm]; exact mul_lt h'.1 h.2)) (lt_mono (mul_lt h.2 h'.2) (by omega))
theorem Sz.mul {p q : Int × Int} {m n : Nat} (hp : IsF p) (hq : IsF q) (h : Sz m p) (h' : Sz n q) : Sz (m + n) (Fr.mul p q) :=
  Sz.low (Int.mul_ne_zero hp.ne hq.ne) (mul_lt h.1 h'.1) (mul_lt h.2 h'.2)
theorem Sz.div {p q : Int × Int} {m n : Nat} (hp : IsF p) (h0 : q.1 ≠ 0) (h : Sz m p) (h' : Sz n q) : Sz (m + n) (Fr.div p q) :=
  Sz.low (Int.mul_ne_zero hp.ne h0) (mul_lt h.1 h'.2) (mul_lt h.2 h'.1)
theorem log2_lt {n m : Nat} (h : n < 2 ^ m) (hm : 0 < m) : n.log2 < m := by
  by_cases h0 : n = 0
  · rw [h0]; simpa using hm
  · exact (Nat.log2_lt h0).mpr h
theorem add_isF {p q : Int × Int} (hp : IsF p) (hq : IsF q) : IsF (Fr.add p q) := (low_spec (Int.mul_ne_zero hp.ne hq.ne)).1
theorem sub_isF {p q : Int × Int} (hp : IsF p) (hq : IsF q) : IsF (Fr.sub p q) := (low_spec (Int.mul_ne_zero hp.ne hq.ne)).1
theorem mul_isF {p q : Int × Int} (hp : IsF p) (hq : IsF q) : IsF (Fr.mul p q) := (low_spec (Int.mul_ne_zero hp.ne hq.ne)).1
theorem div_isF {p q : Int × Int} (hp : IsF p) (h0 : q.1 ≠ 0) : IsF (Fr.div p q) := (low_spec (Int.mul_ne_zero hp.ne h0)).1
end Fr
end
section
set_option maxRecDepth 10000
/-! what the evaluator tells of often met defs -/
namespace Ev
open PySem L2
section
variable {cs : List D} {T : List FD} {W k : Nat}
theorem dAll_refs : ∀ {args : List Vl} {xs : List D} {j : Nat}, dAll args = some xs → refsA args = [] ∧ locA args j = xs.map .d
  | [], _, _, e => by cases e; exact ⟨rfl, rfl⟩
  | .d y :: r, _, j, e => by
    unfold dAll at e
    obtain ⟨m, e1, rfl⟩ := Option.map_eq_some_iff.mp e
    obtain ⟨h1, h2⟩ := dAll_refs (j := j) e1
    exact ⟨h1, by simp [locA, h2]⟩
  | .r _ :: _, _, _, e => by cases e
/-- a call that is handed data alone -/
theorem callP {f : Nat} {d : FD} {args : List Vl} {xs : List D} {st s : Sto} {y : D} (h : T[f]? = some d) (hp : d.pure = true) (hl : args.length = d.np) (ha : dAll args = some xs)
    (hr : outOf 0 (evSs cs (callF cs T W k) W d.body (startE d.N (xs.map .d)) []) = .ok (.d y) s) : callF cs T W (k + 1) f args st = .ok (.d y) st := by
  obtain ⟨h1, h2⟩ := dAll_refs (j := 0) ha
  unfold callF
  rw [h]
  simp only [hl, h1, List.nodup_nil, and_self, if_true, objsA, h2, List.length_nil, hr, backOut, backV, bnd_ok]
  cases s <;> rfl
/-- a call that may change things -/
theorem callI {f : Nat} {d : FD} {args : List Vl} {st s os : Sto} {y : D} (h : T[f]? = some d) (hl : args.length = d.np) (hn : (refsA args).Nodup) (ho : objsA st (refsA args) = some os)
    (hr : outOf (refsA args).length (evSs cs (callF cs T W k) W d.body (startE d.N (locA args 0)) os) = .ok (.d y) s) : callF cs T W (k + 1) f args st = .ok (.d y) (wback st (refsA args) s) := by
  unfold callF
  rw [h]
  simp only [hl, hn, and_self, if_true, ho, hr, backOut, backV, bnd_ok]
theorem mulD {a b : Int} {m n : Nat} (ha : a.natAbs < 2 ^ m) (hb : b.natAbs < 2 ^ n) (h : m + n ≤ 400000 := by omega) : a.natAbs.log2 + b.natAbs.log2 < 1000000 := by
  have h1 := Fr.log2_lt (Nat.lt_of_lt_of_le ha (Nat.pow_le_pow_right (by decide) (show m ≤ m + 1 by omega))) (by omega)
  have h2 := Fr.log2_lt (Nat.lt_of_lt_of_le hb (Nat.pow_le_pow_right (by decide) (show n ≤ n + 1 by omega))) (by omega)
  omega
theorem whl_step {c : Envr → Sto → Res Bool} {f : Envr → Sto → Res Fl} {m : Nat} {env env' : Envr} {st st1 st2 : Sto} (h1 : c env st = .ok true st1) (h2 : f env st1 = .ok (.nx env') st2) : whl c f (m + 1) env st = whl c f m env' st2 := by
  rw [whl, h1]
  simp only [bnd_ok, h2]
theorem whl_stop {c : Envr → Sto → Res Bool} {f : Envr → Sto → Res Fl} {m : Nat} {env : Envr} {st st1 : Sto} (h1 : c env st = .ok false st1) : whl c f (m + 1) env st = .ok (.nx env) st1 := by
  rw [whl, h1]
  simp only [bnd_ok]
/-! ### the greatest common divisor -/
def bGcd : Ss := .cons (.whl (.cmp .ne (.var 1) (.int 0)) (.cons (.par [0, 1] (.cons (.var 1) (.cons (.bin .mod (.var 0) (.var 1)) .nil))) .nil)) (.cons (.ret (.var 0)) .nil)
theorem gcd_loop {cl : Nat → List Vl → Sto → Res Vl} {W0 : Nat} (b : Nat) : ∀ (m a : Nat), b < m → whl (fun env st => tst (evE cs cl (.cmp .ne (.var 1) (.int 0)) env st)) (fun env st => evSs cs cl W0 (.cons (.par [0, 1] (.cons (.var 1) (.cons (.bin .mod (.var 0) (.var 1)) .nil))) .nil) env st) m [some (.d (.int a)), some (.d (.int b))] [] =
    .ok (.nx [some (.d (.int (Nat.gcd b a : Nat))), some (.d (.int 0))]) [] := by
  induction b using Nat.strongRecOn with
  | ind b ih =>
    intro m a hm
    cases m with
    | zero => omega
    | succ m =>
      by_cases hb : b = 0
      · subst hb
        rw [whl_stop (st1 := []) (by simp [evE, tst, asD, rd, lift, cmpD, eqD, scalD, PyData.eqv, tru, truD])]
        simp
      · have hbp : 0 < b := by omega
        have hb0 : ((b : Int) == 0) = false := by simp; omega
        have hlt : a % b < b := Nat.mod_lt _ hbp
        have g : Nat.gcd (a % b) b = Nat.gcd b a := (Nat.gcd_rec b a).symm
        rw [whl_step (st1 := []) (st2 := []) (env' := [some (.d (.int b)), some (.d (.int ((a % b : Nat) : Int)))])
          (by simp [evE, tst, asD, rd, lift, cmpD, eqD, scalD, PyData.eqv, tru, truD, hb0]) (by simp [evE, evSs, evS, evEs, asD, rd, lift, binD, hbp, setPar]), ih (a % b) hlt m b (by omega), g]
theorem run_gcd {i : Nat} {nm x y : Str} (h : T[i]? = some ⟨nm, 2, [x, y], bGcd, true, false⟩) (a b : Int) (ha : 0 ≤ a) (hb : 0 ≤ b) (hW : b < W) (st : Sto) : callF cs T W (k + 1) i [.d (.int a), .d (.int b)] st = .ok (.d (.int (Int.gcd a b))) st := by
  obtain ⟨a, rfl⟩ := Int.eq_ofNat_of_zero_le ha
  obtain ⟨b, rfl⟩ := Int.eq_ofNat_of_zero_le hb
  refine callP h rfl rfl rfl (s := []) ?_
  have e := gcd_loop (cs := cs) (cl := callF cs T W k) (W0 := W) b W a (by omega)
  show outOf 0 (evSs cs (callF cs T W k) W bGcd [some (.d (.int a)), some (.d (.int b))] []) = _
  unfold bGcd evSs evS
  rw [e]
  simp [evSs, evS, evE, outOf, Int.gcd, Nat.gcd_comm]
def bLow (g : Nat) : Ss := .cons (.ifs (.cmp .lt (.var 1) (.int 0)) (.cons (.par [0, 1] (.cons (.bin .sub (.int 0) (.var 0)) (.cons (.bin .sub (.int 0) (.var 1)) .nil))) .nil) .nil) (.cons (.asg (.var 2) (.call g (.cons (.bi .abs (.cons (.var 0) .nil)) (.cons (.var 1) .nil)))) (.cons (.ret (.tup (.cons (.bin .fdiv (.var 0) (.var 2)) (.cons (.bin .fdiv (.var 1) (.var 2)) .nil)))) .nil))
def fr (p : Int × Int) : D := .tuple [.int p.1, .int p.2]
theorem absI (a : Int) : (if a < 0 then -a else a) = (a.natAbs : Int) := by split <;> omega
/-- sizes at which a great number's divisor may stand -/
theorem gcd_small {a b : Int} {m : Nat} (h : b ≠ 0) (hb : b.natAbs < 2 ^ m) (hm : m ≤ 8000) : 0 < (Int.gcd a b : Int) ∧ (Int.gcd a b : Int).natAbs.log2 < 9000 := by
  have h1 := Fr.gcd_pos (a := a) h
  have h2 : Int.gcd a b ≤ b.natAbs := Nat.le_of_dvd (by omega) (Nat.gcd_dvd_right _ _)
  refine ⟨h1, ?_⟩
  have : (Int.gcd a b : Int).natAbs < 2 ^ (m + 1) := Nat.lt_of_le_of_lt (by omega) (Nat.lt_of_lt_of_le hb (Nat.pow_le_pow_right (by decide) (by omega)))
  have := Fr.log2_lt this (by omega)
  omega
theorem run_low {i g : Nat} {nm nm2 x y z x2 y2 : Str} (h : T[i]? = some ⟨nm, 2, [x, y, z], bLow g, true, false⟩) (hg : T[g]? = some ⟨nm2, 2, [x2, y2], bGcd, true, false⟩) {a b : Int} {m : Nat} (hb : b ≠ 0) (hs : b.natAbs < 2 ^ m) (hm : m ≤ 8000) (hW : b.natAbs < W) (st : Sto) :
    callF cs T W (k + 2) i [.d (.int a), .d (.int b)] st = .ok (.d (fr (Fr.low a b))) st := by
  refine callP h rfl rfl rfl (s := []) ?_
  show outOf 0 (evSs cs (callF cs T W (k + 1)) W (bLow g) [some (.d (.int a)), some (.d (.int b)), none] []) = _
  have gs := gcd_small (a := a) hb hs hm
  by_cases hn : b < 0
  · have e := run_gcd (cs := cs) (k := k) (W := W) hg ((0 - a).natAbs : Int) (0 - b) (by omega) (by omega) (by omega) []
    have e2 : Int.gcd ((0 - a).natAbs : Int) (0 - b) = Int.gcd a b := by simp [Int.gcd]
    rw [e2] at e
    simp only [bLow, evSs, evS, evE, evEs, List.getElem?_cons_zero, List.getElem?_cons_succ, bnd_ok, asD, rd, lift, cmpD, Option.map_some, tru, truD, Option.bind_some, hn, decide_true, sel_tt, binD, setPar, List.set_cons_zero, List.set_cons_succ, asDs, biD, absI, e, setG, gs, and_self, if_true, dAll, Option.map_some, outOf]
    simp [fr, Fr.low, hn, show (2 : Nat) ≤ sizeLine by decide]
  · have e := run_gcd (cs := cs) (k := k) (W := W) hg (a.natAbs : Int) b (by omega) (by omega) (by omega) []
    have e2 : Int.gcd (a.natAbs : Int) b = Int.gcd a b := by simp [Int.gcd]
    rw [e2] at e
    simp only [bLow, evSs, evS, evE, evEs, List.getElem?_cons_zero, List.getElem?_cons_succ, bnd_ok, asD, rd, lift, cmpD, Option.map_some, tru, truD, Option.bind_some, hn, decide_false, sel_ff, binD, setPar, List.set_cons_zero, List.set_cons_succ, asDs, biD, absI, e, setG, gs, and_self, if_true, dAll, Option.map_some, outOf]
    simp [fr, Fr.low, hn, show (2 : Nat) ≤ sizeLine by decide]
/-- a def that brings to lowest terms -/
def LowRun (cs : List D) (T : List FD) (W k l : Nat) : Prop := ∀ (a b : Int) (m : Nat) (st : Sto), b ≠ 0 → a.natAbs < 2 ^ m → b.natAbs < 2 ^ m → m ≤ 8000 → callF cs T W (k + 2) l [.d (.int a), .d (.int b)] st = .ok (.d (fr (Fr.low a b))) st
theorem lowRun {i g : Nat} {nm nm2 x y z x2 y2 : Str} (hW : 2 ^ 8000 ≤ W) (h : T[i]? = some ⟨nm, 2, [x, y, z], bLow g, true, false⟩) (hg : T[g]? = some ⟨nm2, 2, [x2, y2], bGcd, true, false⟩) : LowRun cs T W k i := fun a b m st hb _ hs hm =>
  run_low h hg hb hs hm (Nat.lt_of_lt_of_le (Nat.lt_of_lt_of_le hs (Nat.pow_le_pow_right (by decide) hm)) hW) st
/-- a law's own: by rests from the other side -/
def bLowL : Ss := .cons (.par [2, 3] (.cons (.bi .abs (.cons (.var 0) .nil)) (.cons (.bi .abs (.cons (.var 1) .nil)) .nil))) (.cons (.whl (.cmp .gt (.var 2) (.int 0)) (.cons (.par [2, 3] (.cons (.bin .mod (.var 3) (.var 2)) (.cons (.var 2) .nil))) .nil)) (.cons (.ret (.ifx (.cmp .gt (.var 1) (.int 0)) (.tup (.cons (.bin .fdiv (.var 0) (.var 3)) (.cons (.bin .fdiv (.var 1) (.var 3)) .nil))) (.tup (.cons (.bin .sub (.int 0) (.bin .fdiv (.var 0) (.var 3))) (.cons (.bin .sub (.int 0) (.bin .fdiv (.var 1) (.var 3))) .nil))))) .nil))
theorem lowL_loop {cl : Nat → List Vl → Sto → Res Vl} {W0 : Nat} {A B : Vl} (b : Nat) : ∀ (m a : Nat), b < m → whl (fun env st => tst (evE cs cl (.cmp .gt (.var 2) (.int 0)) env st)) (fun env st => evSs cs cl W0 (.cons (.par [2, 3] (.cons (.bin .mod (.var 3) (.var 2)) (.cons (.var 2) .nil))) .nil) env st) m [some A, some B, some (.d (.int b)), some (.d (.int a))] [] =
    .ok (.nx [some A, some B, some (.d (.int 0)), some (.d (.int (Nat.gcd b a : Nat)))]) [] := by
  induction b using Nat.strongRecOn with
  | ind b ih =>
    intro m a hm
    cases m with
    | zero => omega
    | succ m =>
      by_cases hb : b = 0
      · subst hb
        rw [whl_stop (st1 := []) (by simp [evE, tst, asD, rd, lift, cmpD, tru, truD])]
        simp
      · have hbp : 0 < b := by omega
        have hlt : a % b < b := Nat.mod_lt _ hbp
        have g : Nat.gcd (a % b) b = Nat.gcd b a := (Nat.gcd_rec b a).symm
        rw [whl_step (st1 := []) (st2 := []) (env' := [some A, some B, some (.d (.int ((a % b : Nat) : Int))), some (.d (.int b))])
          (by simp [evE, tst, asD, rd, lift, cmpD, tru, truD, hbp]) (by simp [evE, evSs, evS, evEs, asD, rd, lift, binD, hbp, setPar]), ih (a % b) hlt m b (by omega), g]
theorem neg_div {a g : Int} (hg : 0 < g) (h : g ∣ a) : 0 - a / g = (0 - a) / g := by
  obtain ⟨x, rfl⟩ := h
  rw [Int.mul_ediv_cancel_left _ (by omega), show (0 - g * x) = g * (-x) by grind, Int.mul_ediv_cancel_left _ (by omega)]
  omega
theorem lowRunL {i : Nat} {nm x y z u : Str} (hW : 2 ^ 8000 ≤ W) (h : T[i]? = some ⟨nm, 2, [x, y, z, u], bLowL, true, false⟩) : LowRun cs T W k i := by
  intro a b m st hb ha hs hm
  refine callP h rfl rfl rfl (s := []) ?_
  show outOf 0 (evSs cs (callF cs T W (k + 1)) W bLowL [some (.d (.int a)), some (.d (.int b)), none, none] []) = _
  have gs := gcd_small (a := a) hb hs hm
  have e := lowL_loop (cs := cs) (cl := callF cs T W (k + 1)) (W0 := W) (A := .d (.int a)) (B := .d (.int b)) a.natAbs W b.natAbs (Nat.lt_of_lt_of_le (Nat.lt_of_lt_of_le ha (Nat.pow_le_pow_right (by decide) hm)) hW)
  have eg : (Nat.gcd a.natAbs b.natAbs : Int) = (Int.gcd a b : Int) := rfl
  rw [eg] at e
  have d1 : (Int.gcd a b : Int) ∣ a := Int.gcd_dvd_left ..
  have d2 : (Int.gcd a b : Int) ∣ b := Int.gcd_dvd_right ..
  unfold bLowL
  rw [evSs]
  simp only [evS, evE, evEs, List.getElem?_cons_zero, List.getElem?_cons_succ, bnd_ok, asDs, asD, rd, lift, biD, absI, setPar, List.set_cons_zero, List.set_cons_succ]
  rw [evSs, evS, e]
  by_cases hp : 0 < b
  · have hn : ¬ b < 0 := by omega
    simp only [bnd_ok, evSs, evS, evE, evEs, List.getElem?_cons_zero, List.getElem?_cons_succ, asD, rd, lift, cmpD, Option.map_some, tru, truD, Option.bind_some, hp, decide_true, sel_tt, binD, gs, and_self, if_true, dAll, outOf]
    simp [fr, Fr.low, hn, show (2 : Nat) ≤ sizeLine by decide]
  · have hn : b < 0 := by omega
    simp only [bnd_ok, evSs, evS, evE, evEs, List.getElem?_cons_zero, List.getElem?_cons_succ, asD, rd, lift, cmpD, Option.map_some, tru, truD, Option.bind_some, hp, decide_false, sel_ff, binD, gs, and_self, if_true, dAll, outOf, neg_div gs.1 d1, neg_div gs.1 d2]
    simp [fr, Fr.low, hn, show (2 : Nat) ≤ sizeLine by decide]
/-! ### sums and their like over such a def -/
def bSum (l : Nat) : Ss := .cons (.ret (.call l (.cons (.bin .add (.bin .mul (.sub (.var 0) (.int 0)) (.sub (.var 1) (.int 1))) (.bin .mul (.sub (.var 1) (.int 0)) (.sub (.var 0) (.int 1)))) (.cons (.bin .mul (.sub (.var 0) (.int 1)) (.sub (.var 1) (.int 1))) .nil)))) .nil
def bDif (l : Nat) : Ss := .cons (.ret (.call l (.cons (.bin .sub (.bin .mul (.sub (.var 0) (.int 0)) (.sub (.var 1) (.int 1))) (.bin .mul (.sub (.var 1) (.int 0)) (.sub (.var 0) (.int 1)))) (.cons (.bin .mul (.sub (.var 0) (.int 1)) (.sub (.var 1) (.int 1))) .nil)))) .nil
def bPro (l : Nat) : Ss := .cons (.ret (.call l (.cons (.bin .mul (.sub (.var 0) (.int 0)) (.sub (.var 1) (.int 0))) (.cons (.bin .mul (.sub (.var 0) (.int 1)) (.sub (.var 1) (.int 1))) .nil)))) .nil
def bRat (l : Nat) : Ss := .cons (.ret (.call l (.cons (.bin .mul (.sub (.var 0) (.int 0)) (.sub (.var 1) (.int 1))) (.cons (.bin .mul (.sub (.var 0) (.int 1)) (.sub (.var 1) (.int 0))) .nil)))) .nil
def bLes : Ss := .cons (.ret (.cmp .lt (.bin .mul (.sub (.var 0) (.int 0)) (.sub (.var 1) (.int 1))) (.bin .mul (.sub (.var 1) (.int 0)) (.sub (.var 0) (.int 1))))) .nil
def bWho : Ss := .cons (.ret (.bin .fdiv (.sub (.var 0) (.int 0)) (.sub (.var 0) (.int 1)))) .nil
/-- an operation of two fractions -/
def OpRun (cs : List D) (T : List FD) (W k i : Nat) (f : Int × Int → Int × Int → Int × Int) : Prop := ∀ (p q : Int × Int) (m n : Nat) (st : Sto), Fr.IsF p → Fr.IsF q → Fr.Sz m p → Fr.Sz n q → m + n + 1 ≤ 8000 → callF cs T W (k + 3) i [.d (fr p), .d (fr q)] st = .ok (.d (fr (f p q))) st
theorem sumRun {i l : Nat} {nm x y : Str} (h : T[i]? = some ⟨nm, 2, [x, y], bSum l, true, false⟩) (L : LowRun cs T W k l) : OpRun cs T W k i Fr.add := by
  intro p q m n st hp hq sp sq hm
  refine callP h rfl rfl rfl (s := []) ?_
  show outOf 0 (evSs cs (callF cs T W (k + 2)) W (bSum l) [some (.d (fr p)), some (.d (fr q))] []) = _
  have m1 := mulD sp.1 sq.2
  have m2 := mulD sq.1 sp.2
  have m3 := mulD sp.2 sq.2
  have e := L (p.1 * q.2 + q.1 * p.2) (p.2 * q.2) (m + n + 1) [] (Int.mul_ne_zero hp.ne hq.ne) (Fr.add_lt (Fr.mul_lt sp.1 sq.2) (by rw [Nat.add_comm]; exact Fr.mul_lt sq.1 sp.2)) (Fr.lt_mono (Fr.mul_lt sp.2 sq.2) (by omega)) hm
  simp [bSum, evSs, evS, evE, evEs, fr, asD, rd, lift, subD, atI, ixN, binD, m1, m2, m3, e, outOf, Fr.add]
theorem difRun {i l : Nat} {nm x y : Str} (h : T[i]? = some ⟨nm, 2, [x, y], bDif l, true, false⟩) (L : LowRun cs T W k l) : OpRun cs T W k i Fr.sub := by
  intro p q m n st hp hq sp sq hm
  refine callP h rfl rfl rfl (s := []) ?_
  show outOf 0 (evSs cs (callF cs T W (k + 2)) W (bDif l) [some (.d (fr p)), some (.d (fr q))] []) = _
  have m1 := mulD sp.1 sq.2
  have m2 := mulD sq.1 sp.2
  have m3 := mulD sp.2 sq.2
  have e := L (p.1 * q.2 - q.1 * p.2) (p.2 * q.2) (m + n + 1) [] (Int.mul_ne_zero hp.ne hq.ne) (Fr.sub_lt (Fr.mul_lt sp.1 sq.2) (by rw [Nat.add_comm]; exact Fr.mul_lt sq.1 sp.2)) (Fr.lt_mono (Fr.mul_lt sp.2 sq.2) (by omega)) hm
  simp [bDif, evSs, evS, evE, evEs, fr, asD, rd, lift, subD, atI, ixN, binD, m1, m2, m3, e, outOf, Fr.sub]
theorem proRun {i l : Nat} {nm x y : Str} (h : T[i]? = some ⟨nm, 2, [x, y], bPro l, true, false⟩) (L : LowRun cs T W k l) : OpRun cs T W k i Fr.mul := by
  intro p q m n st hp hq sp sq hm
  refine callP h rfl rfl rfl (s := []) ?_
  show outOf 0 (evSs cs (callF cs T W (k + 2)) W (bPro l) [some (.d (fr p)), some (.d (fr q))] []) = _
  have m1 := mulD sp.1 sq.1
  have m3 := mulD sp.2 sq.2
  have e := L (p.1 * q.1) (p.2 * q.2) (m + n) [] (Int.mul_ne_zero hp.ne hq.ne) (Fr.mul_lt sp.1 sq.1) (Fr.mul_lt sp.2 sq.2) (by omega)
  simp [bPro, evSs, evS, evE, evEs, fr, asD, rd, lift, subD, atI, ixN, binD, m1, m3, e, outOf, Fr.mul]
theorem ratRun {i l : Nat} {nm x y : Str} (h : T[i]? = some ⟨nm, 2, [x, y], bRat l, true, false⟩) (L : LowRun cs T W k l) : ∀ (p q : Int × Int) (m n : Nat) (st : Sto), Fr.IsF p → q.1 ≠ 0 → Fr.Sz m p → Fr.Sz n q → m + n + 1 ≤ 8000 → callF cs T W (k + 3) i [.d (fr p), .d (fr q)] st = .ok (.d (fr (Fr.div p q))) st := by
  intro p q m n st hp hq sp sq hm
  refine callP h rfl rfl rfl (s := []) ?_
  show outOf 0 (evSs cs (callF cs T W (k + 2)) W (bRat l) [some (.d (fr p)), some (.d (fr q))] []) = _
  have m1 := mulD sp.1 sq.2
  have m3 := mulD sp.2 sq.1
  have e := L (p.1 * q.2) (p.2 * q.1) (m + n) [] (Int.mul_ne_zero hp.ne hq) (Fr.mul_lt sp.1 sq.2) (Fr.mul_lt sp.2 sq.1) (by omega)
  simp [bRat, evSs, evS, evE, evEs, fr, asD, rd, lift, subD, atI, ixN, binD, m1, m3, e, outOf, Fr.div]
theorem lesRun {i : Nat} {nm x y : Str} (h : T[i]? = some ⟨nm, 2, [x, y], bLes, true, false⟩) : ∀ (p q : Int × Int) (m n : Nat) (st : Sto), Fr.Sz m p → Fr.Sz n q → m + n + 1 ≤ 8000 → callF cs T W (k + 1) i [.d (fr p), .d (fr q)] st = .ok (.d (.bool (decide (p.1 * q.2 < q.1 * p.2)))) st := by
  intro p q m n st sp sq hm
  refine callP h rfl rfl rfl (s := []) ?_
  show outOf 0 (evSs cs (callF cs T W k) W bLes [some (.d (fr p)), some (.d (fr q))] []) = _
  have m1 := mulD sp.1 sq.2
  have m2 := mulD sq.1 sp.2
  simp [bLes, evSs, evS, evE, evEs, fr, asD, rd, lift, subD, atI, ixN, binD, m1, m2, cmpD, outOf]
theorem whoRun {i : Nat} {nm x : Str} (h : T[i]? = some ⟨nm, 1, [x], bWho, true, false⟩) : ∀ (p : Int × Int) (m : Nat) (st : Sto), Fr.IsF p → Fr.Sz m p → m ≤ 8000 → callF cs T W (k + 1) i [.d (fr p)] st = .ok (.d (.int (p.1 / p.2))) st := by
  intro p m st hp sp hm
  refine callP h rfl rfl rfl (s := []) ?_
  show outOf 0 (evSs cs (callF cs T W k) W bWho [some (.d (fr p))] []) = _
  have m1 : 0 < p.2 ∧ p.2.natAbs.log2 < 9000 := ⟨hp.1, by
    have := Fr.log2_lt (Fr.lt_mono sp.2 (show m ≤ m + 1 by omega)) (by omega)
    omega⟩
  simp [bWho, evSs, evS, evE, evEs, fr, asD, rd, lift, subD, atI, ixN, binD, m1, outOf]
end
end Ev
end
section
set_option maxRecDepth 10000
namespace Ev
open PySem L2
def tapOb (ns : List Int) (s r c : Int) : Ob := .dic [(.inr "cells", .list (ns.map .int)), (.inr "spot", .int s), (.inr "rest", .int r), (.inr "calls", .int c)]
section
variable {cs : List D} {T : List FD} {W k : Nat} {st : Sto} {n : Nat} {ns : List Int} {s r c v : Int}
theorem tg1 (h : st[n]? = some (tapOb ns s r c)) : dgetD st n (.str "cells") = some (.list (ns.map .int)) := by
  unfold dgetD; rw [h]; rfl
theorem tg2 (h : st[n]? = some (tapOb ns s r c)) : dgetD st n (.str "spot") = some (.int s) := by
  unfold dgetD; rw [h]; rfl
theorem tg3 (h : st[n]? = some (tapOb ns s r c)) : dgetD st n (.str "rest") = some (.int r) := by
  unfold dgetD; rw [h]; rfl
theorem tg4 (h : st[n]? = some (tapOb ns s r c)) : dgetD st n (.str "calls") = some (.int c) := by
  unfold dgetD; rw [h]; rfl
theorem small4 : (4 : Nat) < sizeLine := by decide
theorem tp2 (h : st[n]? = some (tapOb ns s r c)) : dputD st n (.str "spot") (.int v) = some (st.set n (tapOb ns v r c)) := by
  unfold dputD; rw [h]
  show (if (4 : Nat) < sizeLine then _ else _) = _
  rw [if_pos small4]; rfl
theorem tp3 (h : st[n]? = some (tapOb ns s r c)) : dputD st n (.str "rest") (.int v) = some (st.set n (tapOb ns s v c)) := by
  unfold dputD; rw [h]
  show (if (4 : Nat) < sizeLine then _ else _) = _
  rw [if_pos small4]; rfl
theorem tp4 (h : st[n]? = some (tapOb ns s r c)) : dputD st n (.str "calls") (.int v) = some (st.set n (tapOb ns s r v)) := by
  unfold dputD; rw [h]
  show (if (4 : Nat) < sizeLine then _ else _) = _
  rw [if_pos small4]; rfl
def bTake : Ss := .cons (.asg (.var 2) (.bin .add (.dget (.var 0) (.str "calls")) (.int 1))) (.cons (.dput (.var 0) (.str "calls") (.var 2)) (.cons (.ifs (.cmp .gt (.dget (.var 0) (.str "rest")) (.int 0)) (.cons (.asg (.var 7) (.bin .mod (.dget (.var 0) (.str "rest")) (.var 1))) (.cons (.dput (.var 0) (.str "rest") (.bin .fdiv (.dget (.var 0) (.str "rest")) (.var 1))) (.cons (.ret (.var 7)) .nil))) .nil) (.cons (.asg (.var 3) (.dget (.var 0) (.str "spot"))) (.cons (.dput (.var 0) (.str "spot") (.bin .add (.var 3) (.int 1))) (.cons (.asg (.var 4) (.dget (.var 0) (.str "cells"))) (.cons (.asg (.var 5) (.ifx (.cmp .gt (.bi .len (.cons (.var 4) .nil)) (.int 0)) (.sub (.var 4) (.bin .mod (.var 3) (.bi .len (.cons (.var 4) .nil)))) (.int 5))) (.cons (.ifs (.and (.cmp .lt (.var 3) (.bi .len (.cons (.var 4) .nil))) (.cmp .ge (.var 5) (.bin .pow (.int 10) (.int 18)))) (.cons (.dput (.var 0) (.str "rest") (.bin .fdiv (.var 5) (.var 1))) (.cons (.ret (.bin .mod (.var 5) (.var 1))) .nil)) .nil) (.cons (.asg (.var 6) (.bin .mod (.bin .pow (.bin .add (.bin .add (.bin .mod (.var 5) (.int 2147483629)) (.bin .mul (.int 6007) (.var 2))) (.int 11)) (.int 5)) (.int 2147483647))) (.cons (.ret (.bin .mod (.bin .fdiv (.bin .mod (.bin .pow (.bin .add (.var 6) (.bin .mul (.bin .mul (.int 4099) (.var 2)) (.var 2))) (.int 5)) (.int 2147483587)) (.int 32)) (.var 1))) .nil)))))))))
theorem pow64 : (2 : Nat) ^ 64 = 18446744073709551616 := by decide
theorem mul_small {a b : Int} (ha : a.natAbs < 2 ^ 64) (hb : b.natAbs < 2 ^ 64) : a.natAbs.log2 + b.natAbs.log2 < 1000000 := mulD ha hb
theorem takeRun0 {m : Nat} {many : Int} (ht : st[n]? = some (tapOb ns s r c)) (hm : 0 < many) (hm2 : many.natAbs.log2 < 9000) (hc : 0 ≤ c) (hc2 : c ≤ 1000000) :
    ∃ y s' r', outOf m (evSs cs (callF cs T W k) W bTake [some (.r n), some (.d (.int many)), none, none, none, none, none, none] st) = .ok (.d (.int y)) (st.set n (tapOb ns s' r' (c + 1))) ∧ 0 ≤ y ∧ y < many := by
  have hn : n < st.length := (List.getElem?_eq_some_iff.mp ht).1
  have h1 : (st.set n (tapOb ns s r (c + 1)))[n]? = some (tapOb ns s r (c + 1)) := List.getElem?_set_self hn
  have h2 : (st.set n (tapOb ns (s + 1) r (c + 1)))[n]? = some (tapOb ns (s + 1) r (c + 1)) := List.getElem?_set_self hn
  by_cases hr : 0 < r
  · refine ⟨r % many, s, r / many, ?_, Int.emod_nonneg _ (by omega), Int.emod_lt_of_pos _ hm⟩
    show outOf m (evSs cs (callF cs T W k) W bTake [some (.r n), some (.d (.int many)), none, none, none, none, none, none] st) = _
    simp [bTake, evSs, evS, evE, evEs, asD, rd, lift, binD, cmpD, tru, truD, setG, tg3 h1, tg4 ht, tp4 ht, tp3 h1, hr, hm, hm2, outOf]
  · have hcell : ∃ cell : Int, (if 0 < ns.length then (L2.atI (ns.map PyData.int) (s % ns.length)) else some (.int 5)) = some (.int cell) := by
      by_cases hl : 0 < ns.length
      · rw [if_pos hl]
        have p1 : 0 ≤ s % (ns.length : Int) := Int.emod_nonneg _ (by omega)
        have p2 : s % (ns.length : Int) < ns.length := Int.emod_lt_of_pos _ (by omega)
        obtain ⟨j, hj⟩ := Int.eq_ofNat_of_zero_le p1
        rw [hj] at p2 ⊢
        have p3 : j < ns.length := by omega
        refine ⟨ns[j], atI_nat ?_⟩
        rw [List.getElem?_map, List.getElem?_eq_getElem p3]
        rfl
      · rw [if_neg hl]; exact ⟨5, rfl⟩
    obtain ⟨cell, hcell⟩ := hcell
    have e18 : (0 : Int) ≤ 18 ∧ (18 : Int) ≤ 1000000 ∧ (10 : Int).natAbs < 2 ^ 64 := by decide
    have q1 : 0 ≤ cell % 2147483629 := Int.emod_nonneg _ (by omega)
    have q2 : cell % 2147483629 < 2147483629 := Int.emod_lt_of_pos _ (by omega)
    have m1 : (6007 : Int).natAbs.log2 + (c + 1).natAbs.log2 < 1000000 := mul_small (by rw [pow64]; omega) (by rw [pow64]; omega)
    have m2 : (4099 : Int).natAbs.log2 + (c + 1).natAbs.log2 < 1000000 := mul_small (by rw [pow64]; omega) (by rw [pow64]; omega)
    have m3 : (4099 * (c + 1)).natAbs.log2 + (c + 1).natAbs.log2 < 1000000 := mul_small (by rw [pow64]; omega) (by rw [pow64]; omega)
    have w1 : (cell % 2147483629 + 6007 * (c + 1) + 11).natAbs < 2 ^ 64 := by rw [pow64]; omega
    have once1 : 0 ≤ (cell % 2147483629 + 6007 * (c + 1) + 11) ^ 5 % 2147483647 := Int.emod_nonneg _ (by omega)
    have once2 : (cell % 2147483629 + 6007 * (c + 1) + 11) ^ 5 % 2147483647 < 2147483647 := Int.emod_lt_of_pos _ (by omega)
    have sq : 4099 * (c + 1) * (c + 1) ≤ 4099 * 1000001 * 1000001 := by
      have := Int.mul_le_mul (show (c + 1) ≤ 1000001 by omega) (show (c + 1) ≤ 1000001 by omega) (by omega) (by omega)
      rw [Int.mul_assoc, Int.mul_assoc]
      omega
    have sq0 : 0 ≤ 4099 * (c + 1) * (c + 1) := Int.mul_nonneg (by omega) (by omega)
    have w2 : ((cell % 2147483629 + 6007 * (c + 1) + 11) ^ 5 % 2147483647 + 4099 * (c + 1) * (c + 1)).natAbs < 2 ^ 64 := by rw [pow64]; omega
    have l32 : (0 : Int) < 32 ∧ (32 : Int).natAbs.log2 < 9000 := by decide
    have five : (0 : Int) ≤ 5 ∧ (5 : Int) ≤ 1000000 := by decide
    -- the cell is read
    have read : ∀ st', evE cs (callF cs T W k) (.ifx (.cmp .gt (.bi .len (.cons (.var 4) .nil)) (.int 0)) (.sub (.var 4) (.bin .mod (.var 3) (.bi .len (.cons (.var 4) .nil)))) (.int 5)) [some (.r n), some (.d (.int many)), some (.d (.int (c + 1))), some (.d (.int s)), some (.d (.list (ns.map .int))), none, none, none] st' = .ok (.d (.int cell)) st' := by
      intro st'
      by_cases hl : 0 < ns.length
      · rw [if_pos hl] at hcell
        have hl' : (0 : Int) < ns.length := by omega
        simp [evE, evEs, asD, asDs, rd, lift, biD, binD, cmpD, tru, truD, subD, hl, hcell]
      · rw [if_neg hl] at hcell
        cases hcell
        simp [evE, evEs, asD, asDs, rd, lift, biD, binD, cmpD, tru, truD, subD, hl]
    have first : outOf m (evSs cs (callF cs T W k) W bTake [some (.r n), some (.d (.int many)), none, none, none, none, none, none] st) =
        outOf m (evSs cs (callF cs T W k) W (.cons (.ifs (.and (.cmp .lt (.var 3) (.bi .len (.cons (.var 4) .nil))) (.cmp .ge (.var 5) (.bin .pow (.int 10) (.int 18)))) (.cons (.dput (.var 0) (.str "rest") (.bin .fdiv (.var 5) (.var 1))) (.cons (.ret (.bin .mod (.var 5) (.var 1))) .nil)) .nil) (.cons (.asg (.var 6) (.bin .mod (.bin .pow (.bin .add (.bin .add (.bin .mod (.var 5) (.int 2147483629)) (.bin .mul (.int 6007) (.var 2))) (.int 11)) (.int 5)) (.int 2147483647))) (.cons (.ret (.bin .mod (.bin .fdiv (.bin .mod (.bin .pow (.bin .add (.var 6) (.bin .mul (.bin .mul (.int 4099) (.var 2)) (.var 2))) (.int 5)) (.int 2147483587)) (.int 32)) (.var 1))) .nil)))
          [some (.r n), some (.d (.int many)), some (.d (.int (c + 1))), some (.d (.int s)), some (.d (.list (ns.map .int))), some (.d (.int cell)), none, none] (st.set n (tapOb ns (s + 1) r (c + 1)))) := by
      rw [bTake]
      rw [evSs, evS]
      simp only [evE, bnd_ok, List.getElem?_cons_zero, tg4 ht, lift, asD, rd, binD, setG, List.set_cons_succ, List.set_cons_zero]
      rw [evSs, evS]
      simp only [evE, bnd_ok, List.getElem?_cons_zero, List.getElem?_cons_succ, tp4 ht]
      rw [evSs, evS]
      simp only [evE, bnd_ok, List.getElem?_cons_zero, List.getElem?_cons_succ, tg3 h1, lift, asD, rd, cmpD, Option.map_some, tru, truD, Option.bind_some, hr, decide_false, sel_ff]
      rw [evSs]
      simp only [bnd_ok]
      rw [evSs, evS]
      simp only [evE, bnd_ok, List.getElem?_cons_zero, List.getElem?_cons_succ, tg2 h1, lift, setG, List.set_cons_succ, List.set_cons_zero]
      rw [evSs, evS]
      simp only [evE, bnd_ok, List.getElem?_cons_zero, List.getElem?_cons_succ, lift, asD, rd, binD, tp2 h1, List.set_set]
      rw [evSs, evS]
      simp only [evE, bnd_ok, List.getElem?_cons_zero, List.getElem?_cons_succ, tg1 h2, lift, setG, List.set_cons_succ, List.set_cons_zero]
      rw [evSs, evS, read]
      simp only [bnd_ok, setG, List.set_cons_succ, List.set_cons_zero]
    by_cases hb : s < (ns.length : Int) ∧ (10 : Int) ^ 18 ≤ cell
    · refine ⟨cell % many, s + 1, cell / many, first.trans ?_, Int.emod_nonneg _ (by omega), Int.emod_lt_of_pos _ hm⟩
      have t18 : (10 : Int) ^ (18 : Int).toNat = 10 ^ 18 := rfl
      simp only [evSs, evS, evE, evEs, asD, asDs, rd, lift, biD, binD, cmpD, tru, truD, List.getElem?_cons_zero, List.getElem?_cons_succ, bnd_ok, List.length_map, hb.1, decide_true, sel_tt, Option.map_some, Option.bind_some, e18, and_self, if_true, t18, hb.2, tp3 h2, hm, hm2, List.set_set, outOf]
    · refine ⟨((cell % 2147483629 + 6007 * (c + 1) + 11) ^ 5 % 2147483647 + 4099 * (c + 1) * (c + 1)) ^ 5 % 2147483587 / 32 % many, s + 1, r, first.trans ?_, Int.emod_nonneg _ (by omega), Int.emod_lt_of_pos _ hm⟩
      have t18 : (10 : Int) ^ (18 : Int).toNat = 10 ^ 18 := rfl
      have t5 : ∀ x : Int, x ^ (5 : Int).toNat = x ^ 5 := fun _ => rfl
      have tst1 : evE cs (callF cs T W k) (.and (.cmp .lt (.var 3) (.bi .len (.cons (.var 4) .nil))) (.cmp .ge (.var 5) (.bin .pow (.int 10) (.int 18)))) [some (.r n), some (.d (.int many)), some (.d (.int (c + 1))), some (.d (.int s)), some (.d (.list (ns.map .int))), some (.d (.int cell)), none, none] (st.set n (tapOb ns (s + 1) r (c + 1))) = .ok (.d (.bool false)) (st.set n (tapOb ns (s + 1) r (c + 1))) := by
        by_cases h3 : s < (ns.length : Int)
        · have h4 : ¬ (10 : Int) ^ 18 ≤ cell := fun z => hb ⟨h3, z⟩
          simp only [evE, evEs, asD, asDs, rd, lift, biD, binD, cmpD, tru, truD, List.getElem?_cons_zero, List.getElem?_cons_succ, bnd_ok, List.length_map, h3, decide_true, sel_tt, Option.map_some, Option.bind_some, e18, and_self, if_true, t18, h4, decide_false]
        · simp only [evE, evEs, asD, asDs, rd, lift, biD, binD, cmpD, tru, truD, List.getElem?_cons_zero, List.getElem?_cons_succ, bnd_ok, List.length_map, h3, decide_false, sel_ff, Option.map_some, Option.bind_some]
      rw [evSs, evS, tst1]
      simp only [bnd_ok, tru, rd, Option.bind_some, truD, sel_ff]
      rw [evSs]
      simp only [bnd_ok]
      rw [evSs, evS]
      simp only [evE, asD, rd, lift, binD, List.getElem?_cons_zero, List.getElem?_cons_succ, bnd_ok, show (0 : Int) < 2147483629 from by decide, show (0 : Int) < 2147483647 from by decide, if_true, m1, five, w1, and_self, t5, setG, List.set_cons_succ, List.set_cons_zero]
      rw [evSs, evS]
      simp only [evE, asD, rd, lift, binD, List.getElem?_cons_zero, List.getElem?_cons_succ, bnd_ok, show (0 : Int) < 2147483587 from by decide, if_true, m2, m3, five, w2, and_self, t5, l32, hm, outOf]
theorem takeRun {i : Nat} {nm x0 x1 x2 x3 x4 x5 x6 x7 : Str} (h : T[i]? = some ⟨nm, 2, [x0, x1, x2, x3, x4, x5, x6, x7], bTake, false, false⟩) {many : Int} (ht : st[n]? = some (tapOb ns s r c)) (hm : 0 < many) (hm2 : many.natAbs.log2 < 9000) (hc : 0 ≤ c) (hc2 : c ≤ 1000000) :
    ∃ y s' r', callF cs T W (k + 1) i [.r n, .d (.int many)] st = .ok (.d (.int y)) (st.set n (tapOb ns s' r' (c + 1))) ∧ 0 ≤ y ∧ y < many := by
  obtain ⟨y, s', r', e, h0, h1⟩ := takeRun0 (cs := cs) (T := T) (W := W) (k := k) (st := [tapOb ns s r c]) (n := 0) rfl hm hm2 hc hc2
  refine ⟨y, s', r', callI (s := [tapOb ns s' r' (c + 1)]) h rfl (by simp [refsA]) (os := [tapOb ns s r c]) ?_ e, h0, h1⟩
  show objsA st [n] = _
  unfold objsA objsA
  rw [ht]
end
end Ev
end
section
set_option maxRecDepth 10000
namespace Ev
open PySem L2
mutual
def nd : D → Nat
  | .list xs => ndA xs + 1
  | .tuple xs => ndA xs + 1
  | _ => 1
def ndA : List D → Nat
  | [] => 0
  | x :: xs => nd x + ndA xs
end
mutual
/-- short leaves -/
def fine : D → Bool
  | .none => true
  | .bool _ => true
  | .int i => decide (i.natAbs.log2 < 1900)
  | .str x => decide ((reprText x).length ≤ 1900)
  | .list xs => fineA xs
  | .tuple xs => fineA xs
  | .dict _ => false
def fineA : List D → Bool
  | [] => true
  | x :: xs => fine x && fineA xs
end
mutual
theorem fine_ok : ∀ (x : D), fine x = true → x.showable = true ∧ x.hasDict = false ∧ x.shown.length + 10 ≤ 2000 * nd x
  | .none, _ => ⟨by simp [PyData.showable], by simp [PyData.hasDict], by
      have e : (PyData.shown .none).length = 4 := rfl
      simp only [nd]; omega⟩
  | .bool b, _ => ⟨by simp [PyData.showable], by simp [PyData.hasDict], by
      have e : (PyData.shown (.bool b)).length ≤ 5 := by cases b <;> decide
      simp only [nd]; omega⟩
  | .int i, h => by
    have h1 : i.natAbs.log2 < 1900 := by simpa [fine] using h
    refine ⟨by simp only [PyData.showable, decide_eq_true_eq]; omega, by simp [PyData.hasDict], ?_⟩
    have e := int_text_length_le (a := i) (k := 1900) (by decide) h1
    have e2 : (PyData.shown (.int i)).length = (toString i).length := by
      simp only [PyData.shown]
      exact ofString_length _
    simp only [nd]
    omega
  | .str x, h => by
    have h1 : (reprText x).length ≤ 1900 := by simpa [fine] using h
    refine ⟨by simp [PyData.showable], by simp [PyData.hasDict], ?_⟩
    simp only [PyData.shown, nd]
    omega
  | .list xs, h => by
    obtain ⟨h1, h2, h3⟩ := fineA_ok xs (by simpa [fine] using h)
    refine ⟨by simpa [PyData.showable] using h1, by simpa [PyData.hasDict] using h2, ?_⟩
    have h4 := listText_len_le (PyData.shownAll xs)
    have h5 := PyData.shownAll_length xs
    simp only [PyData.shown, nd]
    omega
  | .tuple xs, h => by
    obtain ⟨h1, h2, h3⟩ := fineA_ok xs (by simpa [fine] using h)
    refine ⟨by simpa [PyData.showable] using h1, by simpa [PyData.hasDict] using h2, ?_⟩
    have h4 := tupleText_len_le (PyData.shownAll xs)
    have h5 := PyData.shownAll_length xs
    simp only [PyData.shown, nd]
    omega
  | .dict _, h => by simp [fine] at h
theorem fineA_ok : ∀ (xs : List D), fineA xs = true → PyData.showableAll xs = true ∧ PyData.hasDictAll xs = false ∧ ((PyData.shownAll xs).map (·.length)).sum + 10 * xs.length ≤ 2000 * ndA xs
  | [], _ => ⟨by simp [PyData.showableAll], by simp [PyData.hasDictAll], by simp [PyData.shownAll, ndA]⟩
  | x :: xs, h => by
    have h' : fine x = true ∧ fineA xs = true := by simpa [fineA] using h
    obtain ⟨a1, a2, a3⟩ := fine_ok x h'.1
    obtain ⟨b1, b2, b3⟩ := fineA_ok xs h'.2
    refine ⟨by simp [PyData.showableAll, a1, b1], by simp [PyData.hasDictAll, a2, b2], ?_⟩
    simp only [PyData.shownAll, List.map_cons, List.sum_cons, List.length_cons, ndA]
    omega
end
theorem show_ok {x : D} (h : fine x = true) (hd : x.depth ≤ 64) (hn : nd x ≤ 8000) : showD x = some (.str x.shown) := by
  obtain ⟨h1, h2, h3⟩ := fine_ok x h
  have h4 : x.shown.length ≤ sizeLine := by
    rw [sizeLine_eq]
    omega
  unfold showD
  simp [h1, h2, hd, h4]
theorem fine_fr {p : Int × Int} {m : Nat} (h : Fr.Sz m p) (hm : m ≤ 1900) (h0 : 0 < m) : fine (fr p) = true := by
  have h1 := Fr.log2_lt h.1 h0
  have h2 := Fr.log2_lt h.2 h0
  simp only [fr, fine, fineA, Bool.and_true, Bool.and_eq_true, decide_eq_true_eq]
  omega
theorem shaped_fr (p : Int × Int) : SeqAt.shaped (fr p) = true := by
  simp [SeqAt.shaped, fr, PyData.canLay0, PyData.canLayAll0, PyData.depth, PyData.depthAll]
/-- fractions compared -/
theorem eqv_fr (p q : Int × Int) : PyData.eqv (fr p) (fr q) = decide (p = q) := by
  obtain ⟨a, b⟩ := p
  obtain ⟨c, d⟩ := q
  simp only [fr, PyData.eqv, PyData.eqvAll, Bool.and_true]
  by_cases h1 : a = c <;> by_cases h2 : b = d <;> simp [h1, h2]
theorem eqD_fr (p q : Int × Int) : eqD (fr p) (fr q) = some (decide (p = q)) := by
  unfold eqD
  rw [shaped_fr, shaped_fr, eqv_fr]
  simp
end Ev
end
section
set_option maxRecDepth 10000
/-! fractions as rationals -/
namespace Ev
open PySem L2
def pr (x : Rat) : Int × Int := (x.num, (x.den : Int))
/-- a fraction as data -/
def q2 (x : Rat) : D := fr (pr x)
theorem pr_isF (x : Rat) : Fr.IsF (pr x) := ⟨by
  have := x.den_nz
  show (0 : Int) < (x.den : Int)
  omega, by
  have := x.reduced
  show Int.gcd x.num (x.den : Int) = 1
  simpa [Int.gcd, Nat.Coprime] using this⟩
theorem pr_inj {x y : Rat} (h : pr x = pr y) : x = y := by
  have h1 := congrArg Prod.fst h
  have h2 := congrArg Prod.snd h
  exact Rat.ext h1 (Int.ofNat.inj h2)
theorem low_pr {a b : Int} (h : b ≠ 0) : Fr.low a b = pr (Rat.divInt a b) := by
  obtain ⟨h1, h2⟩ := Fr.low_spec (a := a) h
  refine h1.eq (pr_isF _) ?_
  have hd : ((Rat.divInt a b).den : Int) ≠ 0 := by have := (Rat.divInt a b).den_nz; omega
  have h3 : (Rat.divInt a b).num * b = a * ((Rat.divInt a b).den : Int) := (Rat.divInt_eq_divInt_iff hd h).mp (Rat.num_divInt_den _)
  show (Fr.low a b).1 * ((Rat.divInt a b).den : Int) = (Rat.divInt a b).num * (Fr.low a b).2
  apply Int.eq_of_mul_eq_mul_right h
  generalize (Rat.divInt a b).num = n at *
  generalize ((Rat.divInt a b).den : Int) = d at *
  grind
theorem den_ne (x : Rat) : (x.den : Int) ≠ 0 := by have := x.den_nz; omega
theorem add_pr (x y : Rat) : Fr.add (pr x) (pr y) = pr (x + y) := by
  show Fr.low (x.num * (y.den : Int) + y.num * (x.den : Int)) ((x.den : Int) * (y.den : Int)) = _
  rw [low_pr (Int.mul_ne_zero (den_ne x) (den_ne y)), Rat.add_def', ← Rat.divInt_ofNat]
  simp [pr]
theorem sub_pr (x y : Rat) : Fr.sub (pr x) (pr y) = pr (x - y) := by
  show Fr.low (x.num * (y.den : Int) - y.num * (x.den : Int)) ((x.den : Int) * (y.den : Int)) = _
  rw [low_pr (Int.mul_ne_zero (den_ne x) (den_ne y)), Rat.sub_def', ← Rat.divInt_ofNat]
  simp [pr]
theorem mul_pr (x y : Rat) : Fr.mul (pr x) (pr y) = pr (x * y) := by
  show Fr.low (x.num * y.num) ((x.den : Int) * (y.den : Int)) = _
  rw [low_pr (Int.mul_ne_zero (den_ne x) (den_ne y)), Rat.mul_def', ← Rat.divInt_ofNat]
  simp [pr]
theorem num_ne {x : Rat} (h : x ≠ 0) : x.num ≠ 0 := fun e => h (Rat.num_eq_zero.mp e)
theorem div_pr (x : Rat) {y : Rat} (h : y ≠ 0) : Fr.div (pr x) (pr y) = pr (x / y) := by
  show Fr.low (x.num * (y.den : Int)) ((x.den : Int) * y.num) = _
  rw [low_pr (Int.mul_ne_zero (den_ne x) (num_ne h)), Rat.div_def, Rat.inv_def]
  congr 1
  show Rat.divInt (x.num * (y.den : Int)) ((x.den : Int) * y.num) = x * Rat.divInt (y.den : Int) y.num
  rw [← Rat.divInt_mul_divInt, Rat.num_divInt_den]
/-- of at most m bits -/
def Q (m : Nat) (x : Rat) : Prop := Fr.Sz m (pr x)
theorem Q.mono {m n : Nat} {x : Rat} (h : Q m x) (hm : m ≤ n) : Q n x := Fr.Sz.mono h hm
theorem Q.add {m n : Nat} {x y : Rat} (h : Q m x) (h' : Q n y) : Q (m + n + 1) (x + y) := by
  have := Fr.Sz.add (pr_isF x) (pr_isF y) h h'
  rw [add_pr] at this; exact this
theorem Q.sub {m n : Nat} {x y : Rat} (h : Q m x) (h' : Q n y) : Q (m + n + 1) (x - y) := by
  have := Fr.Sz.sub (pr_isF x) (pr_isF y) h h'
  rw [sub_pr] at this; exact this
theorem Q.mul {m n : Nat} {x y : Rat} (h : Q m x) (h' : Q n y) : Q (m + n) (x * y) := by
  have := Fr.Sz.mul (pr_isF x) (pr_isF y) h h'
  rw [mul_pr] at this; exact this
theorem Q.div {m n : Nat} {x y : Rat} (h0 : y ≠ 0) (h : Q m x) (h' : Q n y) : Q (m + n) (x / y) := by
  have := Fr.Sz.div (pr_isF x) (q := pr y) (num_ne h0) h h'
  rw [div_pr x h0] at this; exact this
theorem Q.low {a b : Int} {m : Nat} (h : b ≠ 0) (ha : a.natAbs < 2 ^ m) (hb : b.natAbs < 2 ^ m) : Q m (Rat.divInt a b) := by
  have := Fr.Sz.low h ha hb
  rw [low_pr h] at this; exact this
theorem fine_q {m : Nat} {x : Rat} (h : Q m x) (hm : m ≤ 1900) (h0 : 0 < m) : fine (q2 x) = true := fine_fr h hm h0
theorem shaped_q (x : Rat) : SeqAt.shaped (q2 x) = true := shaped_fr _
theorem eqD_q (x y : Rat) : eqD (q2 x) (q2 y) = some (decide (x = y)) := by
  unfold q2
  rw [eqD_fr]
  congr 1
  by_cases h : x = y
  · simp [h]
  · have h2 : ¬ pr x = pr y := fun e => h (pr_inj e)
    simp [h, h2]
theorem neQ (x y : Rat) : cmpD .ne (q2 x) (q2 y) = some (!decide (x = y)) := by simp only [cmpD, eqD_q, Option.map_some]
theorem eqQ (x y : Rat) : cmpD .eq (q2 x) (q2 y) = some (decide (x = y)) := by simp only [cmpD, eqD_q]
theorem q2_0 (x : Rat) : subD (q2 x) (.int 0) = some (.int x.num) := rfl
theorem q2_1 (x : Rat) : subD (q2 x) (.int 1) = some (.int x.den) := rfl
theorem nd_q (x : Rat) : nd (q2 x) = 3 := rfl
theorem dep_q (x : Rat) : (q2 x).depth ≤ 2 := by simp [q2, fr, PyData.depth, PyData.depthAll]
section
variable {cs : List D} {T : List FD} {W k : Nat}
def LowQ (cs : List D) (T : List FD) (W k l : Nat) : Prop := ∀ (a b : Int) (m : Nat) (st : Sto), b ≠ 0 → a.natAbs < 2 ^ m → b.natAbs < 2 ^ m → m ≤ 8000 → callF cs T W (k + 2) l [.d (.int a), .d (.int b)] st = .ok (.d (q2 (Rat.divInt a b))) st
theorem LowRun.q {l : Nat} (h : LowRun cs T W k l) : LowQ cs T W k l := fun a b m st hb h1 h2 hm => by
  rw [h a b m st hb h1 h2 hm, low_pr hb]; rfl
def BinQ (cs : List D) (T : List FD) (W k i : Nat) (f : Rat → Rat → Rat) : Prop := ∀ {x y : Rat} {m n : Nat} (st : Sto), Q m x → Q n y → m + n + 1 ≤ 8000 → callF cs T W (k + 3) i [.d (q2 x), .d (q2 y)] st = .ok (.d (q2 (f x y))) st
theorem OpRun.addQ {i : Nat} (h : OpRun cs T W k i Fr.add) : BinQ cs T W k i (· + ·) := fun st hx hy hm => by
  rw [q2, q2, h _ _ _ _ st (pr_isF _) (pr_isF _) hx hy hm, add_pr]; rfl
theorem OpRun.subQ {i : Nat} (h : OpRun cs T W k i Fr.sub) : BinQ cs T W k i (· - ·) := fun st hx hy hm => by
  rw [q2, q2, h _ _ _ _ st (pr_isF _) (pr_isF _) hx hy hm, sub_pr]; rfl
theorem OpRun.mulQ {i : Nat} (h : OpRun cs T W k i Fr.mul) : BinQ cs T W k i (· * ·) := fun st hx hy hm => by
  rw [q2, q2, h _ _ _ _ st (pr_isF _) (pr_isF _) hx hy hm, mul_pr]; rfl
theorem divQ {i : Nat} (h : ∀ (p q : Int × Int) (m n : Nat) (st : Sto), Fr.IsF p → q.1 ≠ 0 → Fr.Sz m p → Fr.Sz n q → m + n + 1 ≤ 8000 → callF cs T W (k + 3) i [.d (fr p), .d (fr q)] st = .ok (.d (fr (Fr.div p q))) st) {x y : Rat} {m n : Nat} (st : Sto) (h0 : y ≠ 0) (hx : Q m x) (hy : Q n y) (hm : m + n + 1 ≤ 8000) :
    callF cs T W (k + 3) i [.d (q2 x), .d (q2 y)] st = .ok (.d (q2 (x / y))) st := by
  rw [q2, q2, h _ _ _ _ st (pr_isF _) (num_ne h0) hx hy hm, div_pr _ h0]; rfl
theorem lt_q (x y : Rat) : decide (x.num * (y.den : Int) < y.num * (x.den : Int)) = decide (x < y) := by
  by_cases h : x < y
  · simp [h, (Rat.lt_iff x y).mp h]
  · have : ¬ x.num * (y.den : Int) < y.num * (x.den : Int) := fun e => h ((Rat.lt_iff x y).mpr e)
    simp [h, this]
/-! ### sums of several -/
def bSumOf (s z : Nat) : Ss := .cons (.asg (.var 1) (.cst z)) (.cons (.forr (.var 2) (.val (.var 0)) (.cons (.asg (.var 1) (.call s (.cons (.var 1) (.cons (.var 2) .nil)))) .nil)) (.cons (.ret (.var 1)) .nil))
theorem sumOf_loop {s : Nat} (A : BinQ cs T W k s (· + ·)) {m : Nat} {v0 : Option Vl} : ∀ (xs : List Rat) (y : Rat) (n : Nat) (v2 : Option Vl), (∀ x ∈ xs, Q m x) → Q n y → n + (m + 1) * xs.length ≤ 8000 →
    ∃ u2, forFix (fun x env st => match setG (.var 2) (.d x) env with
      | some env' => evSs cs (callF cs T W (k + 3)) W (.cons (.asg (.var 1) (.call s (.cons (.var 1) (.cons (.var 2) .nil)))) .nil) env' st
      | none => .no) (xs.map q2) [v0, some (.d (q2 y)), v2] [] = .ok (.nx [v0, some (.d (q2 (xs.foldl (· + ·) y))), u2]) []
  | [], y, n, v2, _, _, _ => ⟨v2, rfl⟩
  | x :: xs, y, n, v2, hx, hy, hm => by
    have hx0 := hx x List.mem_cons_self
    have hl : (m + 1) * (x :: xs).length = (m + 1) * xs.length + (m + 1) := by rw [List.length_cons, Nat.mul_succ]
    have e := A (x := y) (y := x) [] hy hx0 (by omega)
    obtain ⟨u2, e2⟩ := sumOf_loop A (v0 := v0) xs (y + x) (n + m + 1) (some (.d (q2 x))) (fun z hz => hx z (List.mem_cons_of_mem _ hz)) (hy.add hx0) (by omega)
    refine ⟨u2, ?_⟩
    rw [List.map_cons, forFix]
    have st1 : (match setG (.var 2) (.d (q2 x)) [v0, some (.d (q2 y)), v2] with
      | some env' => evSs cs (callF cs T W (k + 3)) W (.cons (.asg (.var 1) (.call s (.cons (.var 1) (.cons (.var 2) .nil)))) .nil) env' ([] : Sto)
      | none => .no) = .ok (.nx [v0, some (.d (q2 (y + x))), some (.d (q2 x))]) [] := by
      simp only [setG, List.set_cons_succ, List.set_cons_zero, evSs, evS, evE, evEs, List.getElem?_cons_zero, List.getElem?_cons_succ, bnd_ok, e]
    rw [st1]
    exact e2
theorem Q.zero : Q 1 0 := ⟨by decide, by decide⟩
theorem sumOfRun {i s z : Nat} {nm x y t : Str} (h : T[i]? = some ⟨nm, 1, [x, y, t], bSumOf s z, true, false⟩) (hz : cs[z]? = some (.tuple [.int 0, .int 1])) (A : BinQ cs T W k s (· + ·)) {m : Nat} (xs : List Rat) (st : Sto) (hx : ∀ x ∈ xs, Q m x) (hm : 1 + (m + 1) * xs.length ≤ 8000) :
    callF cs T W (k + 4) i [.d (.list (xs.map q2))] st = .ok (.d (q2 (xs.foldl (· + ·) 0))) st := by
  refine callP h rfl rfl rfl (s := []) ?_
  show outOf 0 (evSs cs (callF cs T W (k + 3)) W (bSumOf s z) [some (.d (.list (xs.map q2))), none, none] []) = _
  obtain ⟨u2, e⟩ := sumOf_loop A (v0 := some (.d (.list (xs.map q2)))) xs 0 1 none hx Q.zero hm
  have z0 : PyData.tuple [.int 0, .int 1] = q2 0 := rfl
  unfold bSumOf
  simp only [evSs, evS, evE, evIt, evEs, hz, lift, z0, bnd_ok, setG, List.set_cons_succ, List.set_cons_zero, List.getElem?_cons_zero, srcOf, forSrc]
  simp only [evSs, evS, evE, evIt, evEs, hz, lift, z0, bnd_ok, setG, List.set_cons_succ, List.set_cons_zero, List.getElem?_cons_zero, srcOf, forSrc] at e
  rw [e]
  simp only [bnd_ok, List.getElem?_cons_succ, List.getElem?_cons_zero, outOf]
end
end Ev
end
section
set_option maxRecDepth 10000
namespace Ev
open PySem L2
/-- a for whose turns keep something -/
theorem forInv {f : D → Envr → Sto → Res Fl} (I : Nat → Envr → Sto → Prop) : ∀ (xs : List D) (j : Nat), (∀ i x env st, xs[i]? = some x → I (j + i) env st → ∃ env' st', f x env st = .ok (.nx env') st' ∧ I (j + i + 1) env' st') → ∀ env st, I j env st → ∃ env' st', forFix f xs env st = .ok (.nx env') st' ∧ I (j + xs.length) env' st'
  | [], j, _, env, st, h => ⟨env, st, rfl, h⟩
  | x :: xs, j, H, env, st, h => by
    obtain ⟨e1, s1, a1, i1⟩ := H 0 x env st rfl h
    obtain ⟨e2, s2, a2, i2⟩ := forInv I xs (j + 1) (fun i y env st hy hi => by
      obtain ⟨e, s, a, b⟩ := H (i + 1) y env st (by simpa using hy) (by rw [show j + (i + 1) = j + 1 + i by omega]; exact hi)
      exact ⟨e, s, a, by rw [show j + 1 + i + 1 = j + (i + 1) + 1 by omega]; exact b⟩) e1 s1 i1
    refine ⟨e2, s2, ?_, by rw [List.length_cons, show j + (xs.length + 1) = j + 1 + xs.length by omega]; exact i2⟩
    rw [forFix, a1]
    exact a2
theorem for_nx {f : D → Envr → Sto → Res Fl} {x : D} {xs : List D} {env env' : Envr} {st st' : Sto} (h : f x env st = .ok (.nx env') st') : forFix f (x :: xs) env st = forFix f xs env' st' := by
  rw [forFix, h]; rfl
section
variable {cs : List D} {cl : Nat → List Vl → Sto → Res Vl} {T : List FD} {W k : Nat} {s : S} {r : Ss} {env env' : Envr} {st st' : Sto}
theorem forS_fix {f : D → Envr → Sto → Res Fl} {xs : List D} : forSrc f (.fix xs) env st = forFix f xs env st := rfl
theorem lcS_fix {f : D → Sto → Res (Option D)} {xs : List D} : lcSrc f (.fix xs) st = lcFix f xs [] st := rfl
theorem sG1 (i : Nat) (v : Vl) (e : Envr) : setG (.var i) v e = some (e.set i (some v)) := rfl
theorem sG2 (g : Gs) (xs : List D) (e : Envr) : setG (.tup g) (.d (.tuple xs)) e = setGs g xs e := rfl
theorem sG5 (g : Gs) (xs : List D) (e : Envr) : setG (.tup g) (.d (.list xs)) e = setGs g xs e := rfl
theorem sG3 (e : Envr) : setGs .nil [] e = some e := rfl
theorem sG4 (g : G) (r : Gs) (x : D) (xs : List D) (e : Envr) : setGs (.cons g r) (x :: xs) e = (setG g (.d x) e).bind fun e' => setGs r xs e' := rfl
theorem ss_nx (h : evS cs cl W s env st = .ok (.nx env') st') : evSs cs cl W (.cons s r) env st = evSs cs cl W r env' st' := by
  rw [evSs, h]; rfl
theorem ss_ret {v : Vl} (h : evS cs cl W s env st = .ok (.ret v) st') : evSs cs cl W (.cons s r) env st = .ok (.ret v) st' := by
  rw [evSs, h]; rfl
theorem ss_nil : evSs cs cl W .nil env st = .ok (.nx env) st := by rw [evSs]
theorem cLt (a b : Int) : cmpD .lt (.int a) (.int b) = some (decide (a < b)) := rfl
theorem cLe (a b : Int) : cmpD .le (.int a) (.int b) = some (decide (a ≤ b)) := rfl
theorem cGt (a b : Int) : cmpD .gt (.int a) (.int b) = some (decide (b < a)) := rfl
theorem cGe (a b : Int) : cmpD .ge (.int a) (.int b) = some (decide (b ≤ a)) := rfl
theorem cEqI (a b : Int) : cmpD .eq (.int a) (.int b) = some (a == b) := rfl
theorem cNeI (a b : Int) : cmpD .ne (.int a) (.int b) = some (!(a == b)) := rfl
theorem cEqS (x : Str) : cmpD .eq (.str x) (.str x) = some true := by
  simp [cmpD, eqD, scalD, PyData.eqv]
theorem cNeS (x : Str) : cmpD .ne (.str x) (.str x) = some false := by
  simp [cmpD, eqD, scalD, PyData.eqv]
theorem sz0 : (0 : Nat) ≤ sizeLine := by decide
theorem sz1 : (1 : Nat) ≤ sizeLine := by decide
theorem sz2 : (2 : Nat) ≤ sizeLine := by decide
theorem sz3 : (3 : Nat) ≤ sizeLine := by decide
theorem sz4 : (4 : Nat) ≤ sizeLine := by decide
theorem sz5 : (5 : Nat) ≤ sizeLine := by decide
theorem sy0 : (0 : Nat) < sizeLine := by decide
theorem sy1 : (1 : Nat) < sizeLine := by decide
theorem sy2 : (2 : Nat) < sizeLine := by decide
theorem sy3 : (3 : Nat) < sizeLine := by decide
theorem sy4 : (4 : Nat) < sizeLine := by decide
theorem pick {xs : List D} {y : Int} (h0 : 0 ≤ y) (h1 : y < xs.length) : ∃ v, L2.atI xs y = some v ∧ v ∈ xs := by
  obtain ⟨j, rfl⟩ := Int.eq_ofNat_of_zero_le h0
  have hj : j < xs.length := by omega
  exact ⟨xs[j], atI_nat (List.getElem?_eq_getElem hj), List.getElem_mem hj⟩
/-! the tap's making -/
def bTap : Ss := .cons (.ret (.dicS ["cells", "spot", "rest", "calls"] (.cons (.bi .list (.cons (.slc (.var 0) .nil (.int 63)) .nil)) (.cons (.int 0) (.cons (.int 0) (.cons (.int 0) .nil)))))) .nil
theorem cut63 (ns : List Int) : cutD (ns.map PyData.int) none (some 63) = (ns.take 63).map PyData.int := by
  unfold cutD
  simp only [HT.sIx]
  simp [List.map_take, List.take_take]
theorem callN {f : Nat} {d : FD} {args : List Vl} {xs : List D} {ob : Ob} {st : Sto} (h : T[f]? = some d) (hp : d.pure = false) (hl : args.length = d.np) (ha : dAll args = some xs)
    (hr : outOf 0 (evSs cs (callF cs T W k) W d.body (startE d.N (xs.map .d)) []) = .ok (.r 0) [ob]) : callF cs T W (k + 1) f args st = .ok (.r st.length) (st ++ [ob]) := by
  obtain ⟨h1, h2⟩ := dAll_refs (j := 0) ha
  unfold callF
  rw [h]
  simp only [hl, h1, List.nodup_nil, and_self, if_true, objsA, h2, List.length_nil, hr, backOut, backV, bnd_ok, hp]
  cases ob <;> rfl
theorem tapRun {i : Nat} {nm x : Str} (h : T[i]? = some ⟨nm, 1, [x], bTap, false, false⟩) {ns : List Int} : callF cs T W (k + 1) i [.d (.list (ns.map .int))] [] = .ok (.r 0) [tapOb (ns.take 63) 0 0 0] := by
  refine callN h rfl rfl rfl (xs := [.list (ns.map .int)]) ?_
  show outOf 0 (evSs cs (callF cs T W k) W bTap [some (.d (.list (ns.map .int)))] []) = _
  simp only [bTap, evSs, evS, evE, evEs, List.getElem?_cons_zero, bnd_ok, ptOf, isNilE, sel_tt, sel_ff, intV, asD, rd, lift, slcD, cut63, asDs, biD, dAll, Option.map_some, List.length_cons, List.length_nil, outOf]
  rfl
/-- a draw at the store's first place -/
theorem draw0 {i : Nat} {nm x0 x1 x2 x3 x4 x5 x6 x7 : Str} (h : T[i]? = some ⟨nm, 2, [x0, x1, x2, x3, x4, x5, x6, x7], bTake, false, false⟩) {ns : List Int} {s r c many : Int} {rest : Sto} (hm : 0 < many) (hm2 : many.natAbs.log2 < 9000) (hc : 0 ≤ c) (hc2 : c ≤ 1000000) :
    ∃ y s' r', callF cs T W (k + 1) i [.r 0, .d (.int many)] (tapOb ns s r c :: rest) = .ok (.d (.int y)) (tapOb ns s' r' (c + 1) :: rest) ∧ 0 ≤ y ∧ y < many :=
  takeRun (st := tapOb ns s r c :: rest) (n := 0) h rfl hm hm2 hc hc2
end
end Ev
end
section
set_option maxRecDepth 10000
/-! sizes of rationals by instances -/
namespace Ev
open PySem L2
class Bd (x : Rat) (m : outParam Nat) : Prop where
  h : Q m x
instance Bd.add {x y : Rat} {m n : Nat} [a : Bd x m] [b : Bd y n] : Bd (x + y) (m + n + 1) := ⟨a.h.add b.h⟩
instance Bd.sub {x y : Rat} {m n : Nat} [a : Bd x m] [b : Bd y n] : Bd (x - y) (m + n + 1) := ⟨a.h.sub b.h⟩
instance Bd.mul {x y : Rat} {m n : Nat} [a : Bd x m] [b : Bd y n] : Bd (x * y) (m + n) := ⟨a.h.mul b.h⟩
instance Bd.zero : Bd 0 1 := ⟨Q.zero⟩
instance Bd.one : Bd 1 1 := ⟨⟨by decide, by decide⟩⟩
section
variable {cs : List D} {T : List FD} {W : Nat}
abbrev AddB (cs : List D) (T : List FD) (W i : Nat) : Prop := ∀ (k : Nat) (x y : Rat) {m n : Nat} [Bd x m] [Bd y n] (st : Sto), m + n + 1 ≤ 8000 → callF cs T W (k + 3) i [.d (q2 x), .d (q2 y)] st = .ok (.d (q2 (x + y))) st
abbrev SubB (cs : List D) (T : List FD) (W i : Nat) : Prop := ∀ (k : Nat) (x y : Rat) {m n : Nat} [Bd x m] [Bd y n] (st : Sto), m + n + 1 ≤ 8000 → callF cs T W (k + 3) i [.d (q2 x), .d (q2 y)] st = .ok (.d (q2 (x - y))) st
abbrev MulB (cs : List D) (T : List FD) (W i : Nat) : Prop := ∀ (k : Nat) (x y : Rat) {m n : Nat} [Bd x m] [Bd y n] (st : Sto), m + n + 1 ≤ 8000 → callF cs T W (k + 3) i [.d (q2 x), .d (q2 y)] st = .ok (.d (q2 (x * y))) st
abbrev DivB (cs : List D) (T : List FD) (W i : Nat) : Prop := ∀ (k : Nat) (x y : Rat) {m n : Nat} [Bd x m] [Bd y n] (st : Sto), y ≠ 0 → m + n + 1 ≤ 8000 → callF cs T W (k + 3) i [.d (q2 x), .d (q2 y)] st = .ok (.d (q2 (x / y))) st
theorem addB {i l : Nat} {nm x y : Str} (h : T[i]? = some ⟨nm, 2, [x, y], bSum l, true, false⟩) (L : ∀ k, LowRun cs T W k l) : AddB cs T W i := fun k x y m n a b st hm => OpRun.addQ (sumRun h (L k)) st a.h b.h hm
theorem subB {i l : Nat} {nm x y : Str} (h : T[i]? = some ⟨nm, 2, [x, y], bDif l, true, false⟩) (L : ∀ k, LowRun cs T W k l) : SubB cs T W i := fun k x y m n a b st hm => OpRun.subQ (difRun h (L k)) st a.h b.h hm
theorem mulB {i l : Nat} {nm x y : Str} (h : T[i]? = some ⟨nm, 2, [x, y], bPro l, true, false⟩) (L : ∀ k, LowRun cs T W k l) : MulB cs T W i := fun k x y m n a b st hm => OpRun.mulQ (proRun h (L k)) st a.h b.h hm
theorem divB {i l : Nat} {nm x y : Str} (h : T[i]? = some ⟨nm, 2, [x, y], bRat l, true, false⟩) (L : ∀ k, LowRun cs T W k l) : DivB cs T W i := fun k x y m n a b st h0 hm => divQ (ratRun h (L k)) st h0 a.h b.h hm
/-- a sum of several -/
abbrev SumsB (cs : List D) (T : List FD) (W i : Nat) : Prop := ∀ (k m : Nat) (xs : List Rat) (st : Sto), (∀ x ∈ xs, Q m x) → 1 + (m + 1) * xs.length ≤ 8000 → callF cs T W (k + 4) i [.d (.list (xs.map q2))] st = .ok (.d (q2 (xs.foldl (· + ·) 0))) st
theorem sums2 {i : Nat} (h : SumsB cs T W i) (k : Nat) (a b : Rat) {m1 m2 : Nat} [A : Bd a m1] [B : Bd b m2] (st : Sto) (hm : 1 + (m1 + m2 + 1) * 2 ≤ 8000) : callF cs T W (k + 4) i [.d (.list [q2 a, q2 b])] st = .ok (.d (q2 (0 + a + b))) st := by
  refine h k (m1 + m2) [a, b] st (fun x hx => ?_) hm
  simp only [List.mem_cons, List.not_mem_nil, or_false] at hx
  rcases hx with rfl | rfl
  · exact A.h.mono (by omega)
  · exact B.h.mono (by omega)
theorem sums3 {i : Nat} (h : SumsB cs T W i) (k : Nat) (a b c : Rat) {m1 m2 m3 : Nat} [A : Bd a m1] [B : Bd b m2] [C : Bd c m3] (st : Sto) (hm : 1 + (m1 + m2 + m3 + 1) * 3 ≤ 8000) : callF cs T W (k + 4) i [.d (.list [q2 a, q2 b, q2 c])] st = .ok (.d (q2 (0 + a + b + c))) st := by
  refine h k (m1 + m2 + m3) [a, b, c] st (fun x hx => ?_) hm
  simp only [List.mem_cons, List.not_mem_nil, or_false] at hx
  rcases hx with rfl | rfl | rfl
  · exact A.h.mono (by omega)
  · exact B.h.mono (by omega)
  · exact C.h.mono (by omega)
theorem sums4 {i : Nat} (h : SumsB cs T W i) (k : Nat) (a b c d : Rat) {m1 m2 m3 m4 : Nat} [A : Bd a m1] [B : Bd b m2] [C : Bd c m3] [E : Bd d m4] (st : Sto) (hm : 1 + (m1 + m2 + m3 + m4 + 1) * 4 ≤ 8000) : callF cs T W (k + 4) i [.d (.list [q2 a, q2 b, q2 c, q2 d])] st = .ok (.d (q2 (0 + a + b + c + d))) st := by
  refine h k (m1 + m2 + m3 + m4) [a, b, c, d] st (fun x hx => ?_) hm
  simp only [List.mem_cons, List.not_mem_nil, or_false] at hx
  rcases hx with rfl | rfl | rfl | rfl
  · exact A.h.mono (by omega)
  · exact B.h.mono (by omega)
  · exact C.h.mono (by omega)
  · exact E.h.mono (by omega)
end
end Ev
end
section
set_option maxRecDepth 10000
/-! draws of the laws k37 to k54: a list of four -/
namespace Ev
open PySem L2
theorem at0 (x : D) (xs : List D) : atI (x :: xs) 0 = some x := by
  have : atI (x :: xs) ((0 : Nat) : Int) = some x := atI_nat rfl
  exact this
theorem at1 (x y : D) (xs : List D) : atI (x :: y :: xs) 1 = some y := by
  have : atI (x :: y :: xs) ((1 : Nat) : Int) = some y := atI_nat rfl
  exact this
theorem at2 (x y z : D) (xs : List D) : atI (x :: y :: z :: xs) 2 = some z := by
  have : atI (x :: y :: z :: xs) ((2 : Nat) : Int) = some z := atI_nat rfl
  exact this
theorem at3 (x y z t : D) (xs : List D) : atI (x :: y :: z :: t :: xs) 3 = some t := by
  have : atI (x :: y :: z :: t :: xs) ((3 : Nat) : Int) = some t := atI_nat rfl
  exact this
theorem subL (xs : List D) (i : Int) : subD (.list xs) (.int i) = atI xs i := rfl
theorem subT (xs : List D) (i : Int) : subD (.tuple xs) (.int i) = atI xs i := rfl
theorem addI (a b : Int) : binD .add (.int a) (.int b) = some (.int (a + b)) := rfl
theorem subI (a b : Int) : binD .sub (.int a) (.int b) = some (.int (a - b)) := rfl
theorem mulI (a b : Int) (h : a.natAbs.log2 + b.natAbs.log2 < 1000000) : binD .mul (.int a) (.int b) = some (.int (a * b)) := by
  unfold binD; simp only; rw [if_pos h]
theorem modI (a b : Int) (h : 0 < b) : binD .mod (.int a) (.int b) = some (.int (a % b)) := by
  unfold binD; simp only; rw [if_pos h]
theorem divI (a b : Int) (h : 0 < b) (h2 : b.natAbs.log2 < 9000) : binD .fdiv (.int a) (.int b) = some (.int (a / b)) := by
  unfold binD; simp only; rw [if_pos ⟨h, h2⟩]
theorem powI (a b : Int) (h : 0 ≤ b) (h2 : b ≤ 1000000) (h3 : a.natAbs < 2 ^ 64) : binD .pow (.int a) (.int b) = some (.int (a ^ b.toNat)) := by
  unfold binD; simp only; rw [if_pos ⟨h, h2, h3⟩]
def fdOb (ns : List Int) (s r c : Int) : Ob := .lst [.list (ns.map .int), .int s, .int r, .int c]
theorem layA_i : ∀ ns : List Int, PyData.canLayAll0 (ns.map .int) = true
  | [] => rfl
  | n :: ns => by rw [List.map_cons, PyData.canLayAll0, layA_i ns]; rfl
theorem depA_i : ∀ ns : List Int, PyData.depthAll (ns.map .int) ≤ 0
  | [] => by simp [PyData.depthAll]
  | n :: ns => by
    rw [List.map_cons, PyData.depthAll]
    exact Nat.max_le.mpr ⟨by simp [PyData.depth], depA_i ns⟩
theorem shapedL_i (ns : List Int) : SeqAt.shaped (.list (ns.map .int)) = true := by
  unfold SeqAt.shaped
  rw [Bool.and_eq_true]
  refine ⟨by simp only [PyData.canLay0, layA_i], decide_eq_true ?_⟩
  have := depA_i ns
  simp only [PyData.depth]
  omega
theorem neNil_i (ns : List Int) : cmpD .ne (.list (ns.map .int)) (.list []) = some (!ns.isEmpty) := by
  have e : SeqAt.shaped (.list []) = true := by decide
  simp only [cmpD, eqD, shapedL_i, e]
  cases ns <;> simp [PyData.eqv, PyData.eqvAll]
def bDrw : Ss := .cons (.put (.var 0) (.int 3) (.bin .add (.sub (.var 0) (.int 3)) (.int 1))) (.cons (.ifs (.cmp .gt (.sub (.var 0) (.int 2)) (.int 0)) (.cons (.asg (.var 4) (.bin .mod (.sub (.var 0) (.int 2)) (.var 1))) (.cons (.put (.var 0) (.int 2) (.bin .fdiv (.sub (.var 0) (.int 2)) (.var 1))) (.cons (.ret (.var 4)) .nil))) .nil) (.cons (.asg (.var 2) (.ifx (.cmp .ne (.sub (.var 0) (.int 0)) (.lst .nil)) (.sub (.sub (.var 0) (.int 0)) (.bin .mod (.sub (.var 0) (.int 1)) (.bi .len (.cons (.sub (.var 0) (.int 0)) .nil)))) (.int 0))) (.cons (.put (.var 0) (.int 1) (.bin .add (.sub (.var 0) (.int 1)) (.int 1))) (.cons (.ifs (.and (.cmp .ge (.var 2) (.bin .pow (.int 10) (.int 18))) (.cmp .le (.sub (.var 0) (.int 1)) (.bi .len (.cons (.sub (.var 0) (.int 0)) .nil)))) (.cons (.put (.var 0) (.int 2) (.bin .fdiv (.var 2) (.var 1))) (.cons (.ret (.bin .mod (.var 2) (.var 1))) .nil)) .nil) (.cons (.asg (.var 3) (.bin .mod (.bin .pow (.bin .add (.bin .add (.bin .mod (.var 2) (.int 2147483629)) (.bin .mul (.int 6007) (.sub (.var 0) (.int 3)))) (.int 19)) (.int 5)) (.int 2147483587))) (.cons (.ret (.bin .mod (.bin .fdiv (.bin .mod (.bin .pow (.bin .add (.var 3) (.bin .mul (.int 7927) (.sub (.var 0) (.int 3)))) (.int 5)) (.int 2147483549)) (.int 8)) (.var 1))) .nil))))))
section
variable {cs : List D} {T : List FD} {W k : Nat} {ns : List Int} {s r c : Int} {rest : Sto}
theorem fd_rd {cells a b d : D} : rd (.lst [cells, a, b, d] :: rest) (.r 0) = some (.list [cells, a, b, d]) := rfl
theorem fd_p1 {cells a b d v : D} : lputD (.lst [cells, a, b, d] :: rest) 0 (.int 1) v = some (.lst [cells, v, b, d] :: rest) := rfl
theorem fd_p2 {cells a b d v : D} : lputD (.lst [cells, a, b, d] :: rest) 0 (.int 2) v = some (.lst [cells, a, v, d] :: rest) := rfl
theorem fd_p3 {cells a b d v : D} : lputD (.lst [cells, a, b, d] :: rest) 0 (.int 3) v = some (.lst [cells, a, b, v] :: rest) := rfl
theorem fdRun0 {m : Nat} {many : Int} (hm : 0 < many) (hm2 : many.natAbs.log2 < 9000) (hc : 0 ≤ c) (hc2 : c ≤ 1000000) :
    ∃ y s' r', outOf m (evSs cs (callF cs T W k) W bDrw [some (.r 0), some (.d (.int many)), none, none, none] (fdOb ns s r c :: rest)) = .ok (.d (.int y)) (fdOb ns s' r' (c + 1) :: rest) ∧ 0 ≤ y ∧ y < many := by
  unfold fdOb
  by_cases hr : 0 < r
  · refine ⟨r % many, s, r / many, ?_, Int.emod_nonneg _ (by omega), Int.emod_lt_of_pos _ hm⟩
    show outOf m (evSs cs (callF cs T W k) W bDrw [some (.r 0), some (.d (.int many)), none, none, none] _) = _
    simp only [bDrw, evSs, evS, evE, List.getElem?_cons_zero, List.getElem?_cons_succ, bnd_ok, asD, fd_rd, rd, lift, subL, at0, at1, at2, at3, addI, fd_p3, cGt, hr, decide_true, Option.map_some, tru, Option.bind_some, truD, sel_tt, modI _ _ hm, divI _ _ hm hm2, sG1, List.set_cons_zero, List.set_cons_succ, fd_p2, outOf]
  · obtain ⟨cell, hcell⟩ : ∃ cell : Int, (if ns.isEmpty then some (.int 0) else L2.atI (ns.map PyData.int) (s % ns.length)) = some (.int cell) := by
      by_cases hl : ns.isEmpty
      · rw [if_pos hl]; exact ⟨0, rfl⟩
      · rw [if_neg hl]
        have hl' : 0 < ns.length := by
          cases ns with
          | nil => simp at hl
          | cons a b => simp
        have p1 : 0 ≤ s % (ns.length : Int) := Int.emod_nonneg _ (by omega)
        have p2 : s % (ns.length : Int) < ns.length := Int.emod_lt_of_pos _ (by omega)
        obtain ⟨j, hj⟩ := Int.eq_ofNat_of_zero_le p1
        rw [hj] at p2 ⊢
        have p3 : j < ns.length := by omega
        refine ⟨ns[j], atI_nat ?_⟩
        rw [List.getElem?_map, List.getElem?_eq_getElem p3]
        rfl
    have t18 : (10 : Int) ^ (18 : Int).toNat = 10 ^ 18 := rfl
    have t5 : ∀ x : Int, x ^ (5 : Int).toNat = x ^ 5 := fun _ => rfl
    have q1 : 0 ≤ cell % 2147483629 := Int.emod_nonneg _ (by omega)
    have q2 : cell % 2147483629 < 2147483629 := Int.emod_lt_of_pos _ (by omega)
    have m1 : (6007 : Int).natAbs.log2 + (c + 1).natAbs.log2 < 1000000 := mul_small (by rw [pow64]; omega) (by rw [pow64]; omega)
    have m2 : (7927 : Int).natAbs.log2 + (c + 1).natAbs.log2 < 1000000 := mul_small (by rw [pow64]; omega) (by rw [pow64]; omega)
    have w1 : (cell % 2147483629 + 6007 * (c + 1) + 19).natAbs < 2 ^ 64 := by rw [pow64]; omega
    have o1 : 0 ≤ (cell % 2147483629 + 6007 * (c + 1) + 19) ^ 5 % 2147483587 := Int.emod_nonneg _ (by omega)
    have o2 : (cell % 2147483629 + 6007 * (c + 1) + 19) ^ 5 % 2147483587 < 2147483587 := Int.emod_lt_of_pos _ (by omega)
    have w2 : ((cell % 2147483629 + 6007 * (c + 1) + 19) ^ 5 % 2147483587 + 7927 * (c + 1)).natAbs < 2 ^ 64 := by rw [pow64]; omega
    have read : ∀ (e3 e4 : Option Vl) (rest : Sto), evE cs (callF cs T W k) (.ifx (.cmp .ne (.sub (.var 0) (.int 0)) (.lst .nil)) (.sub (.sub (.var 0) (.int 0)) (.bin .mod (.sub (.var 0) (.int 1)) (.bi .len (.cons (.sub (.var 0) (.int 0)) .nil)))) (.int 0)) [some (.r 0), some (.d (.int many)), none, e3, e4] (.lst [.list (ns.map .int), .int s, .int r, .int (c + 1)] :: rest) = .ok (.d (.int cell)) (.lst [.list (ns.map .int), .int s, .int r, .int (c + 1)] :: rest) := by
      intro e3 e4 rest
      simp only [evE, evEs, List.getElem?_cons_zero, bnd_ok, asD, fd_rd, rd, lift, subL, at0, at1, dAll, List.length_nil, sz0, if_true, neNil_i, Option.map_some, tru, Option.bind_some, truD, asDs, biD, List.length_map]
      by_cases hl : ns.isEmpty
      · rw [if_pos hl] at hcell
        cases hcell
        simp only [hl, Bool.not_true, sel_ff]
      · rw [if_neg hl] at hcell
        have hl2 : ns.isEmpty = false := by simpa using hl
        have hl' : (0 : Int) < ns.length := by
          cases ns with
          | nil => simp at hl
          | cons a b => simp
        simp only [hl2, Bool.not_false, sel_tt, modI _ _ hl', bnd_ok, rd, subL, hcell]
    by_cases hb : (10 : Int) ^ 18 ≤ cell ∧ s + 1 ≤ (ns.length : Int)
    · refine ⟨cell % many, s + 1, cell / many, ?_, Int.emod_nonneg _ (by omega), Int.emod_lt_of_pos _ hm⟩
      show outOf m (evSs cs (callF cs T W k) W bDrw [some (.r 0), some (.d (.int many)), none, none, none] _) = _
      unfold bDrw
      rw [ss_nx (env' := [some (.r 0), some (.d (.int many)), none, none, none]) (st' := .lst [.list (ns.map .int), .int s, .int r, .int (c + 1)] :: rest) (by
        simp only [evS, evE, List.getElem?_cons_zero, bnd_ok, asD, fd_rd, rd, lift, subL, at3, addI, fd_p3])]
      rw [ss_nx (env' := [some (.r 0), some (.d (.int many)), none, none, none]) (st' := .lst [.list (ns.map .int), .int s, .int r, .int (c + 1)] :: rest) (by
        simp only [evS, evSs, evE, List.getElem?_cons_zero, bnd_ok, asD, fd_rd, rd, lift, subL, at2, cGt, hr, decide_false, Option.map_some, tru, Option.bind_some, truD, sel_ff])]
      rw [ss_nx (env' := [some (.r 0), some (.d (.int many)), some (.d (.int cell)), none, none]) (st' := .lst [.list (ns.map .int), .int s, .int r, .int (c + 1)] :: rest) (by
        rw [evS, read]; simp only [bnd_ok, sG1, List.set_cons_zero, List.set_cons_succ])]
      rw [ss_nx (env' := [some (.r 0), some (.d (.int many)), some (.d (.int cell)), none, none]) (st' := .lst [.list (ns.map .int), .int (s + 1), .int r, .int (c + 1)] :: rest) (by
        simp only [evS, evE, List.getElem?_cons_zero, bnd_ok, asD, fd_rd, rd, lift, subL, at1, addI, fd_p1])]
      simp only [evS, evSs, evE, evEs, List.getElem?_cons_zero, List.getElem?_cons_succ, bnd_ok, asD, asDs, fd_rd, rd, lift, subL, at0, at1, powI 10 18 (by decide) (by decide) (by decide), t18, cGe, cLe, hb.1, hb.2, biD, List.length_map, decide_true, Option.map_some, tru, Option.bind_some, truD, sel_tt, divI _ _ hm hm2, modI _ _ hm, fd_p2, outOf]
    · refine ⟨((cell % 2147483629 + 6007 * (c + 1) + 19) ^ 5 % 2147483587 + 7927 * (c + 1)) ^ 5 % 2147483549 / 8 % many, s + 1, r, ?_, Int.emod_nonneg _ (by omega), Int.emod_lt_of_pos _ hm⟩
      show outOf m (evSs cs (callF cs T W k) W bDrw [some (.r 0), some (.d (.int many)), none, none, none] _) = _
      unfold bDrw
      rw [ss_nx (env' := [some (.r 0), some (.d (.int many)), none, none, none]) (st' := .lst [.list (ns.map .int), .int s, .int r, .int (c + 1)] :: rest) (by
        simp only [evS, evE, List.getElem?_cons_zero, bnd_ok, asD, fd_rd, rd, lift, subL, at3, addI, fd_p3])]
      rw [ss_nx (env' := [some (.r 0), some (.d (.int many)), none, none, none]) (st' := .lst [.list (ns.map .int), .int s, .int r, .int (c + 1)] :: rest) (by
        simp only [evS, evSs, evE, List.getElem?_cons_zero, bnd_ok, asD, fd_rd, rd, lift, subL, at2, cGt, hr, decide_false, Option.map_some, tru, Option.bind_some, truD, sel_ff])]
      rw [ss_nx (env' := [some (.r 0), some (.d (.int many)), some (.d (.int cell)), none, none]) (st' := .lst [.list (ns.map .int), .int s, .int r, .int (c + 1)] :: rest) (by
        rw [evS, read]; simp only [bnd_ok, sG1, List.set_cons_zero, List.set_cons_succ])]
      rw [ss_nx (env' := [some (.r 0), some (.d (.int many)), some (.d (.int cell)), none, none]) (st' := .lst [.list (ns.map .int), .int (s + 1), .int r, .int (c + 1)] :: rest) (by
        simp only [evS, evE, List.getElem?_cons_zero, bnd_ok, asD, fd_rd, rd, lift, subL, at1, addI, fd_p1])]
      rw [ss_nx (env' := [some (.r 0), some (.d (.int many)), some (.d (.int cell)), none, none]) (st' := .lst [.list (ns.map .int), .int (s + 1), .int r, .int (c + 1)] :: rest) (by
        simp only [evS, evSs, evE, evEs, List.getElem?_cons_zero, List.getElem?_cons_succ, bnd_ok, asD, asDs, fd_rd, rd, lift, subL, at0, at1, powI 10 18 (by decide) (by decide) (by decide), t18, cGe, cLe, biD, List.length_map, Option.map_some, tru, Option.bind_some, truD]
        by_cases h1 : (10 : Int) ^ 18 ≤ cell
        · have h2 : ¬ s + 1 ≤ (ns.length : Int) := fun z => hb ⟨h1, z⟩
          simp only [h1, h2, decide_true, decide_false, sel_tt, sel_ff, bnd_ok, Option.bind_some, truD]
        · simp only [h1, decide_false, sel_ff, bnd_ok, Option.bind_some, truD])]
      simp only [evS, evSs, evE, evEs, List.getElem?_cons_zero, List.getElem?_cons_succ, bnd_ok, asD, asDs, fd_rd, rd, lift, subL, at3, modI _ 2147483629 (by decide), mulI _ _ m1, mulI _ _ m2, addI, powI _ 5 (by decide) (by decide) w1, t5, modI _ 2147483587 (by decide), sG1, List.set_cons_zero, List.set_cons_succ, powI _ 5 (by decide) (by decide) w2, modI _ 2147483549 (by decide), divI _ 8 (by decide) (by decide), modI _ _ hm, outOf]
theorem fdRun {i : Nat} {nm x0 x1 x2 x3 x4 : Str} (h : T[i]? = some ⟨nm, 2, [x0, x1, x2, x3, x4], bDrw, false, false⟩) {many : Int} (hm : 0 < many) (hm2 : many.natAbs.log2 < 9000) (hc : 0 ≤ c) (hc2 : c ≤ 1000000) :
    ∃ y s' r', callF cs T W (k + 1) i [.r 0, .d (.int many)] (fdOb ns s r c :: rest) = .ok (.d (.int y)) (fdOb ns s' r' (c + 1) :: rest) ∧ 0 ≤ y ∧ y < many := by
  obtain ⟨y, s', r', e, h0, h1⟩ := fdRun0 (cs := cs) (T := T) (W := W) (k := k) (ns := ns) (s := s) (r := r) (c := c) (rest := []) hm hm2 hc hc2
  exact ⟨y, s', r', callI (s := [fdOb ns s' r' (c + 1)]) h rfl (by simp [refsA]) (os := [fdOb ns s r c]) rfl e, h0, h1⟩
end
end Ev
end
section
set_option maxRecDepth 10000
namespace Ev
open PySem L2
section
variable {cs : List D} {T : List FD} {W k : Nat}
def bLowB : Ss := .cons (.par [2, 3] (.cons (.bi .abs (.cons (.var 0) .nil)) (.cons (.var 1) .nil))) (.cons (.whl (.cmp .gt (.var 3) (.int 0)) (.cons (.par [2, 3] (.cons (.var 3) (.cons (.bin .mod (.var 2) (.var 3)) .nil))) .nil)) (.cons (.ret (.tup (.cons (.bin .fdiv (.var 0) (.var 2)) (.cons (.bin .fdiv (.var 1) (.var 2)) .nil)))) .nil))
theorem lowB_loop {cl : Nat → List Vl → Sto → Res Vl} {W0 : Nat} {A B : Vl} (b : Nat) : ∀ (m a : Nat), b < m → whl (fun env st => tst (evE cs cl (.cmp .gt (.var 3) (.int 0)) env st)) (fun env st => evSs cs cl W0 (.cons (.par [2, 3] (.cons (.var 3) (.cons (.bin .mod (.var 2) (.var 3)) .nil))) .nil) env st) m [some A, some B, some (.d (.int a)), some (.d (.int b))] [] =
    .ok (.nx [some A, some B, some (.d (.int (Nat.gcd b a : Nat))), some (.d (.int 0))]) [] := by
  induction b using Nat.strongRecOn with
  | ind b ih =>
    intro m a hm
    cases m with
    | zero => omega
    | succ m =>
      by_cases hb : b = 0
      · subst hb
        rw [whl_stop (st1 := []) (by simp [evE, tst, asD, rd, lift, cmpD, tru, truD])]
        simp
      · have hbp : 0 < b := by omega
        have hlt : a % b < b := Nat.mod_lt _ hbp
        have g : Nat.gcd (a % b) b = Nat.gcd b a := (Nat.gcd_rec b a).symm
        rw [whl_step (st1 := []) (st2 := []) (env' := [some A, some B, some (.d (.int b)), some (.d (.int ((a % b : Nat) : Int)))])
          (by simp [evE, tst, asD, rd, lift, cmpD, tru, truD, hbp]) (by simp [evE, evSs, evS, evEs, asD, rd, lift, binD, hbp, setPar]), ih (a % b) hlt m b (by omega), g]
/-- under is above nought here -/
theorem lowRunB {i : Nat} {nm x y z u : Str} (hW : 2 ^ 8000 ≤ W) (h : T[i]? = some ⟨nm, 2, [x, y, z, u], bLowB, true, false⟩) (a b : Int) (m : Nat) (st : Sto) (hb : 0 < b) (hs : b.natAbs < 2 ^ m) (hm : m ≤ 8000) :
    callF cs T W (k + 1) i [.d (.int a), .d (.int b)] st = .ok (.d (q2 (Rat.divInt a b))) st := by
  refine callP h rfl rfl rfl (s := []) ?_
  show outOf 0 (evSs cs (callF cs T W k) W bLowB [some (.d (.int a)), some (.d (.int b)), none, none] []) = _
  have gs := gcd_small (a := a) (by omega) hs hm
  have e := lowB_loop (cs := cs) (cl := callF cs T W k) (W0 := W) (A := .d (.int a)) (B := .d (.int b)) b.natAbs W a.natAbs (Nat.lt_of_lt_of_le (Nat.lt_of_lt_of_le hs (Nat.pow_le_pow_right (by decide) hm)) hW)
  have eb : ((b.natAbs : Nat) : Int) = b := by omega
  have eg : ((Nat.gcd b.natAbs a.natAbs : Nat) : Int) = (Int.gcd a b : Int) := by rw [Nat.gcd_comm]; rfl
  rw [eg, eb] at e
  unfold bLowB
  rw [evSs]
  simp only [evS, evE, evEs, List.getElem?_cons_zero, List.getElem?_cons_succ, bnd_ok, asDs, asD, rd, lift, biD, absI, setPar, List.set_cons_zero, List.set_cons_succ]
  rw [evSs, evS, e]
  have hn : ¬ b < 0 := by omega
  rw [q2, ← low_pr (by omega)]
  simp only [bnd_ok, evSs, evS, evE, evEs, List.getElem?_cons_zero, List.getElem?_cons_succ, asD, rd, lift, binD, gs, and_self, if_true, dAll, Option.map_some, outOf]
  simp [fr, Fr.low, hn, show (2 : Nat) ≤ sizeLine by decide]
end
end Ev
end
section
set_option maxRecDepth 10000
/-! runs told by what is wished of their end; the evaluator's own equations, walked lazily -/
namespace Ev
open PySem L2
section
variable {α β : Type}
/-- a run ends, and so as wished (a structure: nothing looks into the run) -/
structure Ok (r : Res α) (Q : α → Sto → Prop) : Prop where
  ex : ∃ a s, r = .ok a s ∧ Q a s
theorem Ok.of {r : Res α} {a : α} {s : Sto} {Q : α → Sto → Prop} (e : r = .ok a s) (h : Q a s) : Ok r Q := ⟨a, s, e, h⟩
theorem Ok.mk' {a : α} {s : Sto} {Q : α → Sto → Prop} (h : Q a s) : Ok (.ok a s) Q := ⟨a, s, rfl, h⟩
theorem Ok.get {a : α} {s : Sto} {Q : α → Sto → Prop} (h : Ok (.ok a s) Q) : Q a s := by
  obtain ⟨b, t, e, q⟩ := h.ex
  cases e
  exact q
theorem not_ok {Q : α → Sto → Prop} (h : Ok .no Q) : False := by
  obtain ⟨b, t, e, q⟩ := h.ex
  cases e
theorem not_ex {c : Str} {fs : List (Str × D)} {s : Sto} {Q : α → Sto → Prop} (h : Ok (.ex c fs s) Q) : False := by
  obtain ⟨b, t, e, q⟩ := h.ex
  cases e
theorem ok_ok (a : α) (s : Sto) (Q : α → Sto → Prop) : Ok (.ok a s) Q = Q a s := propext ⟨Ok.get, Ok.mk'⟩
/-- (no lemma by rfl: the kernel would look into both sides) -/
theorem bnd_k (a : α) (s : Sto) (f : α → Sto → Res β) : (Res.ok a s).bnd f = f a s := id rfl
/-- what is wished of a first part (by a name: simp shall not look into what comes later) -/
def okK (f : α → Sto → Res β) (Q : β → Sto → Prop) (a : α) (s : Sto) : Prop := Ok (f a s) Q
theorem okK_at (f : α → Sto → Res β) (Q : β → Sto → Prop) (a : α) (s : Sto) : okK f Q a s = Ok (f a s) Q := id rfl
theorem ok_bnd (r : Res α) (f : α → Sto → Res β) (Q : β → Sto → Prop) : Ok (r.bnd f) Q = Ok r (okK f Q) := by
  cases r with
  | ok a s => rw [bnd_k, ok_ok, okK_at]
  | ex c fs s => exact propext ⟨fun h => (not_ex h).elim, fun h => (not_ex h).elim⟩
  | no => exact propext ⟨fun h => (not_ok h).elim, fun h => (not_ok h).elim⟩
theorem calm_k (a : α) (s : Sto) : (Res.ok a s).calm = .ok a s := id rfl
theorem bnd_x {c : Str} {fs : List (Str × D)} {s : Sto} (f : α → Sto → Res β) : (Res.ex c fs s : Res α).bnd f = .ex c fs s := id rfl
theorem ok_calm (r : Res α) (Q : α → Sto → Prop) : Ok r.calm Q = Ok r Q := by
  cases r with
  | ok a s => rw [calm_k]
  | ex c fs s => exact propext ⟨fun h => (not_ok h).elim, fun h => (not_ex h).elim⟩
  | no => exact propext ⟨fun h => (not_ok h).elim, fun h => (not_ok h).elim⟩
/-- a run ends by an exception -/
structure Xo (r : Res α) (c : Str) (fs : List (Str × D)) (Q : Sto → Prop) : Prop where
  ex : ∃ s, r = .ex c fs s ∧ Q s
theorem xo_at {c : Str} {fs : List (Str × D)} {s : Sto} {Q : Sto → Prop} (h : Q s) : Xo (.ex c fs s : Res α) c fs Q := ⟨s, rfl, h⟩
theorem xo_bnd {r : Res α} {f : α → Sto → Res β} {c : Str} {fs : List (Str × D)} {Q : Sto → Prop} (h : Xo r c fs Q) : Xo (r.bnd f) c fs Q := by
  obtain ⟨s, e, q⟩ := h.ex
  exact ⟨s, by rw [e]; rfl, q⟩
theorem xo_then {r : Res α} {f : α → Sto → Res β} {c : Str} {fs : List (Str × D)} {Q : Sto → Prop} (h : Ok r fun a s => Xo (f a s) c fs Q) : Xo (r.bnd f) c fs Q := by
  obtain ⟨a, s, e, q⟩ := h.ex
  rw [e]
  exact q
theorem Ok.mono {r : Res α} {Q Q' : α → Sto → Prop} (h : Ok r Q) (q : ∀ a s, Q a s → Q' a s) : Ok r Q' := by
  obtain ⟨a, s, e, h⟩ := h.ex
  exact ⟨a, s, e, q a s h⟩
theorem Ok.eq {r : Res α} {a : α} {s : Sto} (h : Ok r fun b t => b = a ∧ t = s) : r = .ok a s := by
  obtain ⟨b, t, e, rfl, rfl⟩ := h.ex
  exact e
end
section
variable {cs : List D} {cl : Nat → List Vl → Sto → Res Vl} {W : Nat} {env : Envr} {st : Sto}
def thenS (cs : List D) (cl : Nat → List Vl → Sto → Res Vl) (W : Nat) (r : Ss) (fl : Fl) (st : Sto) : Res Fl := match fl with
  | .nx env => evSs cs cl W r env st
  | .ret v => .ok (.ret v) st
  | .bk env => .ok (.bk env) st
  | .ct env => .ok (.ct env) st
  | .rtt vs => .ok (.rtt vs) st
theorem then_rtt {r : Ss} {vs : List Vl} : thenS cs cl W r (.rtt vs) st = .ok (.rtt vs) st := id rfl
theorem then_nx {r : Ss} : thenS cs cl W r (.nx env) st = evSs cs cl W r env st := id rfl
theorem then_ret {r : Ss} {v : Vl} : thenS cs cl W r (.ret v) st = .ok (.ret v) st := id rfl
theorem then_bk {r : Ss} : thenS cs cl W r (.bk env) st = .ok (.bk env) st := id rfl
theorem then_ct {r : Ss} : thenS cs cl W r (.ct env) st = .ok (.ct env) st := id rfl
theorem Ss_cons {s : S} {r : Ss} : evSs cs cl W (.cons s r) env st = (evS cs cl W s env st).bnd (thenS cs cl W r) := by
  rw [evSs]
  congr
  funext fl st
  cases fl <;> rfl
theorem Ss_nil : evSs cs cl W .nil env st = .ok (.nx env) st := by rw [evSs]
def setTo (g : G) (env : Envr) (v : Vl) (st : Sto) : Res Fl := match setG g v env with
  | some env' => .ok (.nx env') st
  | none => .no
def parTo (is : List Nat) (env : Envr) (vs : List Vl) (st : Sto) : Res Fl := match setPar is vs env with
  | some env' => .ok (.nx env') st
  | none => .no
def putTo (env : Envr) (v ov iv : Vl) (st : Sto) : Res Fl := match v, ov, iv with
  | .d x, .r n, .d k => match lputD st n k x with
    | some st4 => .ok (.nx env) st4
    | none => .no
  | _, _, _ => .no
def dputTo (env : Envr) (v ov iv : Vl) (st : Sto) : Res Fl := match v, ov, iv with
  | .d x, .r n, .d k => match dputD st n k x with
    | some st4 => .ok (.nx env) st4
    | none => .no
  | _, _, _ => .no
def kNx (env : Envr) (_ : Vl) (st1 : Sto) : Res Fl := .ok (.nx env) st1
def kRet (v : Vl) (st1 : Sto) : Res Fl := .ok (.ret v) st1
def kPut1 (cs : List D) (cl : Nat → List Vl → Sto → Res Vl) (o i : E) (env : Envr) (v : Vl) (st1 : Sto) : Res Fl := (evE cs cl o env st1).bnd fun ov st2 => (evE cs cl i env st2).bnd (putTo env v ov)
def kPut2 (cs : List D) (cl : Nat → List Vl → Sto → Res Vl) (i : E) (env : Envr) (v ov : Vl) (st2 : Sto) : Res Fl := (evE cs cl i env st2).bnd (putTo env v ov)
theorem kPut1_at {o i : E} {v : Vl} : kPut1 cs cl o i env v st = (evE cs cl o env st).bnd (kPut2 cs cl i env v) := id rfl
theorem kPut2_at {i : E} {v ov : Vl} : kPut2 cs cl i env v ov st = (evE cs cl i env st).bnd (putTo env v ov) := id rfl
def kDput1 (cs : List D) (cl : Nat → List Vl → Sto → Res Vl) (o i : E) (env : Envr) (v : Vl) (st1 : Sto) : Res Fl := (evE cs cl o env st1).bnd fun ov st2 => (evE cs cl i env st2).bnd (dputTo env v ov)
def kDput2 (cs : List D) (cl : Nat → List Vl → Sto → Res Vl) (i : E) (env : Envr) (v ov : Vl) (st2 : Sto) : Res Fl := (evE cs cl i env st2).bnd (dputTo env v ov)
theorem kDput1_at {o i : E} {v : Vl} : kDput1 cs cl o i env v st = (evE cs cl o env st).bnd (kDput2 cs cl i env v) := id rfl
theorem kDput2_at {i : E} {v ov : Vl} : kDput2 cs cl i env v ov st = (evE cs cl i env st).bnd (dputTo env v ov) := id rfl
/-- by a truth, the parts not looked at -/
def selS (cs : List D) (cl : Nat → List Vl → Sto → Res Vl) (W : Nat) (a b : Ss) (env : Envr) (st : Sto) (o : Option Bool) : Res Fl := sel o (evSs cs cl W a env st) (evSs cs cl W b env st)
theorem selS_tt {a b : Ss} : selS cs cl W a b env st (some true) = evSs cs cl W a env st := id rfl
theorem selS_ff {a b : Ss} : selS cs cl W a b env st (some false) = evSs cs cl W b env st := id rfl
theorem selS_or {a b : Ss} {t : Bool} {Q : Fl → Sto → Prop} (h1 : t = true → Ok (evSs cs cl W a env st) Q) (h2 : t = false → Ok (evSs cs cl W b env st) Q) : Ok (selS cs cl W a b env st (some t)) Q := by
  cases t with
  | true => exact h1 rfl
  | false => exact h2 rfl
def kIfs (cs : List D) (cl : Nat → List Vl → Sto → Res Vl) (W : Nat) (a b : Ss) (env : Envr) (v : Vl) (st1 : Sto) : Res Fl := selS cs cl W a b env st1 (tru v st1)
def kFor (cs : List D) (cl : Nat → List Vl → Sto → Res Vl) (W : Nat) (g : G) (b : Ss) (env : Envr) (src : Src) (st1 : Sto) : Res Fl := forSrc (forTurn cs cl W g b) src env st1
theorem kFor_at {g : G} {b : Ss} {src : Src} : kFor cs cl W g b env src st = forSrc (forTurn cs cl W g b) src env st := id rfl
theorem S_expr {e : E} : evS cs cl W (.expr e) env st = (evE cs cl e env st).bnd (kNx env) := by rw [evS]; rfl
theorem S_asg {g : G} {e : E} : evS cs cl W (.asg g e) env st = (evE cs cl e env st).bnd (setTo g env) := by rw [evS]; rfl
theorem S_par {is : List Nat} {es : Es} : evS cs cl W (.par is es) env st = (evEs cs cl es env st).bnd (parTo is env) := by rw [evS]; rfl
theorem S_put {o i e : E} : evS cs cl W (.put o i e) env st = (evE cs cl e env st).bnd (kPut1 cs cl o i env) := by rw [evS]; rfl
theorem S_dput {o i e : E} : evS cs cl W (.dput o i e) env st = (evE cs cl e env st).bnd (kDput1 cs cl o i env) := by rw [evS]; rfl
theorem S_ifs {c : E} {a b : Ss} : evS cs cl W (.ifs c a b) env st = (evE cs cl c env st).bnd (kIfs cs cl W a b env) := by rw [evS]; rfl
theorem S_for {g : G} {it : It} {b : Ss} : evS cs cl W (.forr g it b) env st = (evIt cs cl it env st).bnd (kFor cs cl W g b env) := by
  rw [evS]
  refine congrArg _ (funext fun src => funext fun st1 => congrArg (fun f => forSrc f src env st1) (funext fun x => funext fun env => funext fun st => ?_))
  unfold forTurn
  cases setG g (.d x) env <;> rfl
theorem S_ret {e : E} : evS cs cl W (.ret e) env st = (evE cs cl e env st).bnd kRet := by rw [evS]; rfl
theorem S_pass : evS cs cl W .pass env st = .ok (.nx env) st := by rw [evS]
theorem S_brk : evS cs cl W .brk env st = .ok (.bk env) st := by rw [evS]
theorem S_cnt : evS cs cl W .cnt env st = .ok (.ct env) st := by rw [evS]
theorem S_whl {c : E} {b : Ss} : evS cs cl W (.whl c b) env st = whl (fun env st => tst (evE cs cl c env st)) (fun env st => evSs cs cl W b env st) W env st := by rw [evS]
theorem setTo_var {i : Nat} {v : Vl} : setTo (.var i) env v st = .ok (.nx (env.set i (some v))) st := rfl
def augG (cs : List D) (cl : Nat → List Vl → Sto → Res Vl) (i : Nat) (op : Op) (e : E) (env : Envr) (st : Sto) (o : Option (Option Vl)) : Res Fl := match o with
  | some (some (.d (.int a))) => (evE cs cl e env st).bnd (augTo i op a env)
  | _ => .no
theorem S_aug {i : Nat} {op : Op} {e : E} : evS cs cl W (.aug i op e) env st = augG cs cl i op e env st env[i]? := by
  rw [evS]
  unfold augG
  cases env[i]? with
  | none => rfl
  | some o => cases o with
    | none => rfl
    | some v => cases v with
      | r n => rfl
      | x _ _ => rfl
      | d x => cases x <;> rfl
theorem aug_g {i : Nat} {op : Op} {e : E} {a : Int} : augG cs cl i op e env st (some (some (.d (.int a)))) = (evE cs cl e env st).bnd (augTo i op a env) := id rfl
theorem aug_add {i : Nat} {a b : Int} : augTo i .add a env (.d (.int b)) st = .ok (.nx (env.set i (some (.d (.int (a + b)))))) st := id rfl
theorem aug_sub {i : Nat} {a b : Int} : augTo i .sub a env (.d (.int b)) st = .ok (.nx (env.set i (some (.d (.int (a - b)))))) st := id rfl
def kRett (vs : List Vl) (st1 : Sto) : Res Fl := if vs.length ≤ sizeLine then .ok (.rtt vs) st1 else .no
theorem S_rett {es : Es} : evS cs cl W (.rett es) env st = (evEs cs cl es env st).bnd kRett := by rw [evS]; rfl
theorem rett_at {vs : List Vl} (h : vs.length ≤ sizeLine) : kRett vs st = .ok (.rtt vs) st := if_pos h
theorem S_rais {c : Str} {fs : List Str} {es : Es} : evS cs cl W (.rais c fs es) env st = (evEs cs cl es env st).bnd (raisD c fs) := by rw [evS]
theorem rais_at {c : Str} {fs : List Str} {vs : List Vl} {xs : List D} (h : dAll vs = some xs) (hl : xs.length = fs.length) : raisD c fs vs st = .ex c (fs.zip xs) st := by
  unfold raisD
  rw [h]
  simp only [hl, if_true]
def kTry (cs : List D) (cl : Nat → List Vl → Sto → Res Vl) (W : Nat) (hs : Hs) (env : Envr) (c : Str) (fs : List (Str × D)) (st1 : Sto) : Res Fl := evHs cs cl W hs c fs env st1
theorem S_tryx {b : S} {hs : Hs} : evS cs cl W (.tryx b hs) env st = tryR (evS cs cl W b env st) (kTry cs cl W hs env) := by rw [evS]; rfl
theorem try_ok {r : Res Fl} {k : Str → List (Str × D) → Sto → Res Fl} {Q : Fl → Sto → Prop} (h : Ok r Q) : Ok (tryR r k) Q := by
  obtain ⟨a, s, e, q⟩ := h.ex
  rw [e]
  exact ⟨a, s, rfl, q⟩
theorem try_ex {r : Res Fl} {k : Str → List (Str × D) → Sto → Res Fl} {c : Str} {fs : List (Str × D)} {P : Sto → Prop} {Q : Fl → Sto → Prop} (h : Xo r c fs P) (q : ∀ s, P s → Ok (k c fs s) Q) : Ok (tryR r k) Q := by
  obtain ⟨s, e, p⟩ := h.ex
  rw [e]
  exact q s p
def kFin (i : Option Nat) (fl : Fl) (st1 : Sto) : Res Fl := finH (goneF i fl) st1
theorem H_hit {ns : List Str} {i : Option Nat} {b : Ss} {r : Hs} {c : Str} {fs : List (Str × D)} (h : xsubs cs c ns = some true) : evHs cs cl W (.cons ns i b r) c fs env st = (evSs cs cl W b (namedE i c fs env) st).calm.bnd (kFin i) := by
  rw [evHs, h]; rfl
theorem H_miss {ns : List Str} {i : Option Nat} {b : Ss} {r : Hs} {c : Str} {fs : List (Str × D)} (h : xsubs cs c ns = some false) : evHs cs cl W (.cons ns i b r) c fs env st = evHs cs cl W r c fs env st := by
  rw [evHs, h]
theorem fin_at {i : Option Nat} {fl : Fl} (h : noXF (goneF i fl) = true) : kFin i fl st = .ok (goneF i fl) st := by
  unfold kFin finH
  rw [if_pos h]
/-! expressions -/
def bin3 (op : Op) (y : Vl) (st : Sto) (x' : D) (_ : Sto) : Res Vl := (asD y st).bnd fun y' _ => lift (binD op x' y') st
def cmp3 (op : Cp) (y : Vl) (st : Sto) (x' : D) (_ : Sto) : Res Vl := (asD y st).bnd fun y' _ => lift ((cmpD op x' y').map .bool) st
def sub3 (y : Vl) (st : Sto) (x' : D) (_ : Sto) : Res Vl := (asD y st).bnd fun y' _ => lift (subD x' y') st
def bin4 (op : Op) (st : Sto) (x' y' : D) (_ : Sto) : Res Vl := lift (binD op x' y') st
def cmp4 (op : Cp) (st : Sto) (x' y' : D) (_ : Sto) : Res Vl := lift ((cmpD op x' y').map .bool) st
def sub4 (st : Sto) (x' y' : D) (_ : Sto) : Res Vl := lift (subD x' y') st
def bin2 (op : Op) (x y : Vl) (st : Sto) : Res Vl := (asD x st).bnd (bin3 op y st)
def cmp2 (op : Cp) (x y : Vl) (st : Sto) : Res Vl := (asD x st).bnd (cmp3 op y st)
def sub2 (x y : Vl) (st : Sto) : Res Vl := (asD x st).bnd (sub3 y st)
theorem bin3_at {op : Op} {y : Vl} {s' : Sto} {x' : D} : bin3 op y st x' s' = (asD y st).bnd (bin4 op st x') := id rfl
theorem cmp3_at {op : Cp} {y : Vl} {s' : Sto} {x' : D} : cmp3 op y st x' s' = (asD y st).bnd (cmp4 op st x') := id rfl
theorem sub3_at {y : Vl} {s' : Sto} {x' : D} : sub3 y st x' s' = (asD y st).bnd (sub4 st x') := id rfl
def getV (o : Option (Option Vl)) (st : Sto) : Res Vl := match o with
    | some (some v) => .ok v st
    | _ => .no
theorem get_v {v : Vl} : getV (some (some v)) st = .ok v st := id rfl
theorem E_var {i : Nat} : evE cs cl (.var i) env st = getV env[i]? st := by
  rw [evE]; unfold getV
  cases env[i]? with
  | none => rfl
  | some o => cases o <;> rfl
theorem E_int {n : Int} : evE cs cl (.int n) env st = .ok (.d (.int n)) st := by rw [evE]
theorem E_bl {b : Bool} : evE cs cl (.bl b) env st = .ok (.d (.bool b)) st := by rw [evE]
theorem E_non : evE cs cl .non env st = .ok (.d .none) st := by rw [evE]
theorem E_str {x : Str} : evE cs cl (.str x) env st = .ok (.d (.str x)) st := by rw [evE]
theorem E_cst {i : Nat} : evE cs cl (.cst i) env st = lift cs[i]? st := by rw [evE]
def kBin (cs : List D) (cl : Nat → List Vl → Sto → Res Vl) (op : Op) (b : E) (env : Envr) (x : Vl) (st1 : Sto) : Res Vl := (evE cs cl b env st1).bnd (bin2 op x)
def kCmp (cs : List D) (cl : Nat → List Vl → Sto → Res Vl) (op : Cp) (b : E) (env : Envr) (x : Vl) (st1 : Sto) : Res Vl := (evE cs cl b env st1).bnd (cmp2 op x)
def kSub (cs : List D) (cl : Nat → List Vl → Sto → Res Vl) (b : E) (env : Envr) (x : Vl) (st1 : Sto) : Res Vl := (evE cs cl b env st1).bnd (sub2 x)
theorem E_bin {op : Op} {a b : E} : evE cs cl (.bin op a b) env st = (evE cs cl a env st).bnd (kBin cs cl op b env) := by rw [evE]; rfl
def negV (x : Vl) (st1 : Sto) : Res Vl := match x with
    | .d (.int i) => .ok (.d (.int (-i))) st1
    | _ => .no
theorem neg_v {i : Int} : negV (.d (.int i)) st = .ok (.d (.int (-i))) st := id rfl
theorem E_neg {a : E} : evE cs cl (.neg a) env st = (evE cs cl a env st).bnd negV := by
  rw [evE]
  refine congrArg _ (funext fun x => funext fun st1 => ?_)
  cases x with
  | r n => rfl
  | x _ _ => rfl
  | d x => cases x <;> rfl
def notB (b : Bool) : D := .bool !b
theorem notB_t : notB true = .bool false := id rfl
theorem notB_f : notB false = .bool true := id rfl
def ntV (x : Vl) (st1 : Sto) : Res Vl := lift ((tru x st1).map notB) st1
theorem E_nt {a : E} : evE cs cl (.nt a) env st = (evE cs cl a env st).bnd ntV := by
  rw [evE]
  refine congrArg _ (funext fun x => funext fun st1 => ?_)
  unfold ntV
  cases tru x st1 <;> rfl
theorem E_cmp {op : Cp} {a b : E} : evE cs cl (.cmp op a b) env st = (evE cs cl a env st).bnd (kCmp cs cl op b env) := by rw [evE]; rfl
def selC (cs : List D) (cl : Nat → List Vl → Sto → Res Vl) (op' : Cp) (c : E) (env : Envr) (y : Vl) (st2 : Sto) (o : Option Bool) : Res Vl := sel o ((evE cs cl c env st2).bnd (cmp2 op' y)) (.ok (.d (.bool false)) st2)
theorem selC_tt {op' : Cp} {c : E} {y : Vl} : selC cs cl op' c env y st (some true) = (evE cs cl c env st).bnd (cmp2 op' y) := id rfl
theorem selC_ff {op' : Cp} {c : E} {y : Vl} : selC cs cl op' c env y st (some false) = .ok (.d (.bool false)) st := id rfl
def chain4 (cs : List D) (cl : Nat → List Vl → Sto → Res Vl) (op op' : Cp) (c : E) (env : Envr) (y : Vl) (st2 : Sto) (x' y' : D) (_ : Sto) : Res Vl := selC cs cl op' c env y st2 (cmpD op x' y')
def chain3 (cs : List D) (cl : Nat → List Vl → Sto → Res Vl) (op op' : Cp) (c : E) (env : Envr) (y : Vl) (st2 : Sto) (x' : D) (_ : Sto) : Res Vl := (asD y st2).bnd (chain4 cs cl op op' c env y st2 x')
def chainC (cs : List D) (cl : Nat → List Vl → Sto → Res Vl) (op op' : Cp) (c : E) (env : Envr) (x y : Vl) (st2 : Sto) : Res Vl := (asD x st2).bnd (chain3 cs cl op op' c env y st2)
def kChain (cs : List D) (cl : Nat → List Vl → Sto → Res Vl) (op op' : Cp) (b c : E) (env : Envr) (x : Vl) (st1 : Sto) : Res Vl := (evE cs cl b env st1).bnd (chainC cs cl op op' c env x)
theorem E_cmp2 {op op' : Cp} {a b c : E} : evE cs cl (.cmp2 op op' a b c) env st = (evE cs cl a env st).bnd (kChain cs cl op op' b c env) := by
  rw [evE]
  refine congrArg _ (funext fun x => funext fun st1 => congrArg _ (funext fun y => funext fun st2 => congrArg _ (funext fun x' => funext fun _ => congrArg _ (funext fun y' => funext fun _ => ?_))))
  unfold chain4 selC
  cases cmpD op x' y' with
  | none => rfl
  | some t => cases t <;> rfl
def selA (cs : List D) (cl : Nat → List Vl → Sto → Res Vl) (b : E) (env : Envr) (x : Vl) (st1 : Sto) (o : Option Bool) : Res Vl := sel o (evE cs cl b env st1) (.ok x st1)
theorem selA_tt {b : E} {x : Vl} : selA cs cl b env x st (some true) = evE cs cl b env st := id rfl
theorem selA_ff {b : E} {x : Vl} : selA cs cl b env x st (some false) = .ok x st := id rfl
def selO (cs : List D) (cl : Nat → List Vl → Sto → Res Vl) (b : E) (env : Envr) (x : Vl) (st1 : Sto) (o : Option Bool) : Res Vl := sel o (.ok x st1) (evE cs cl b env st1)
theorem selO_tt {b : E} {x : Vl} : selO cs cl b env x st (some true) = .ok x st := id rfl
theorem selO_ff {b : E} {x : Vl} : selO cs cl b env x st (some false) = evE cs cl b env st := id rfl
def selE (cs : List D) (cl : Nat → List Vl → Sto → Res Vl) (a b : E) (env : Envr) (st1 : Sto) (o : Option Bool) : Res Vl := sel o (evE cs cl a env st1) (evE cs cl b env st1)
theorem selE_tt {a b : E} : selE cs cl a b env st (some true) = evE cs cl a env st := id rfl
theorem selE_ff {a b : E} : selE cs cl a b env st (some false) = evE cs cl b env st := id rfl
def kAnd (cs : List D) (cl : Nat → List Vl → Sto → Res Vl) (b : E) (env : Envr) (x : Vl) (st1 : Sto) : Res Vl := selA cs cl b env x st1 (tru x st1)
def kOr (cs : List D) (cl : Nat → List Vl → Sto → Res Vl) (b : E) (env : Envr) (x : Vl) (st1 : Sto) : Res Vl := selO cs cl b env x st1 (tru x st1)
def kIfx (cs : List D) (cl : Nat → List Vl → Sto → Res Vl) (a b : E) (env : Envr) (x : Vl) (st1 : Sto) : Res Vl := selE cs cl a b env st1 (tru x st1)
theorem E_and {a b : E} : evE cs cl (.and a b) env st = (evE cs cl a env st).bnd (kAnd cs cl b env) := by rw [evE]; rfl
theorem E_or {a b : E} : evE cs cl (.or a b) env st = (evE cs cl a env st).bnd (kOr cs cl b env) := by rw [evE]; rfl
theorem E_ifx {c a b : E} : evE cs cl (.ifx c a b) env st = (evE cs cl c env st).bnd (kIfx cs cl a b env) := by rw [evE]; rfl
def mkT (vs : List Vl) (st1 : Sto) : Res Vl := match dAll vs with
    | some xs => if xs.length ≤ sizeLine then .ok (.d (.tuple xs)) st1 else .no
    | none => .no
def mkL (vs : List Vl) (st1 : Sto) : Res Vl := match dAll vs with
    | some xs => if xs.length ≤ sizeLine then .ok (.d (.list xs)) st1 else .no
    | none => .no
def mkS (vs : List Vl) (st1 : Sto) : Res Vl := match dAll vs with
    | some xs => if xs.length ≤ sizeLine then .ok (.r st1.length) (st1 ++ [.lst xs]) else .no
    | none => .no
theorem E_tup {es : Es} : evE cs cl (.tup es) env st = (evEs cs cl es env st).bnd mkT := by rw [evE]; rfl
theorem E_lst {es : Es} : evE cs cl (.lst es) env st = (evEs cs cl es env st).bnd mkL := by rw [evE]; rfl
theorem E_lstS {es : Es} : evE cs cl (.lstS es) env st = (evEs cs cl es env st).bnd mkS := by rw [evE]; rfl
theorem E_sub {a i : E} : evE cs cl (.sub a i) env st = (evE cs cl a env st).bnd (kSub cs cl i env) := by rw [evE]; rfl
def slc3 (l h : Option Int) (st3 : Sto) (x' : D) (_ : Sto) : Res Vl := lift (slcD x' l h) st3
def slc2 (x : Vl) (l h : Option Int) (st3 : Sto) : Res Vl := (asD x st3).bnd (slc3 l h st3)
def kSlc2 (cs : List D) (cl : Nat → List Vl → Sto → Res Vl) (hi : E) (env : Envr) (x : Vl) (l : Option Int) (st2 : Sto) : Res Vl := (ptOf (isNilE hi) (evE cs cl hi env st2)).bnd (slc2 x l)
def kSlc1 (cs : List D) (cl : Nat → List Vl → Sto → Res Vl) (lo hi : E) (env : Envr) (x : Vl) (st1 : Sto) : Res Vl := (ptOf (isNilE lo) (evE cs cl lo env st1)).bnd (kSlc2 cs cl hi env x)
theorem E_slc {a lo hi : E} : evE cs cl (.slc a lo hi) env st = (evE cs cl a env st).bnd (kSlc1 cs cl lo hi env) := by rw [evE]; rfl
def ptK (b : Bool) (v : Vl) (st : Sto) : Res (Option Int) := sel (some b) (.ok none st) (intV v st)
theorem ptK_t {v : Vl} : ptK true v st = .ok none st := id rfl
theorem ptK_f {i : Int} : ptK false (.d (.int i)) st = .ok (some i) st := id rfl
theorem ptOf_at {b : Bool} {r : Res Vl} : ptOf b r = r.bnd (ptK b) := id rfl
def rev3 (st1 : Sto) (x' : D) (_ : Sto) : Res Vl := match x' with
    | .list xs => .ok (.d (.list xs.reverse)) st1
    | .tuple xs => .ok (.d (.tuple xs.reverse)) st1
    | _ => .no
theorem rev3_t {xs : List D} {s' : Sto} : rev3 st (.tuple xs) s' = .ok (.d (.tuple xs.reverse)) st := id rfl
theorem rev3_l {xs : List D} {s' : Sto} : rev3 st (.list xs) s' = .ok (.d (.list xs.reverse)) st := id rfl
def revV (x : Vl) (st1 : Sto) : Res Vl := (asD x st1).bnd (rev3 st1)
theorem E_rev {a : E} : evE cs cl (.rev a) env st = (evE cs cl a env st).bnd revV := by
  rw [evE]; rfl
theorem E_nil : evE cs cl .nil env st = .ok (.d .none) st := by rw [evE]
theorem E_own {a : E} : evE cs cl (.own a) env st = (evE cs cl a env st).calm.bnd ownV := by rw [evE]
def kCall (cl : Nat → List Vl → Sto → Res Vl) (f : Nat) (vs : List Vl) (st1 : Sto) : Res Vl := cl f vs st1
theorem kCall_at {f : Nat} {vs : List Vl} : kCall cl f vs st = cl f vs st := id rfl
theorem E_call {f : Nat} {es : Es} : evE cs cl (.call f es) env st = (evEs cs cl es env st).bnd (kCall cl f) := by rw [evE]; rfl
def bi3 (b : Bi) (st1 : Sto) (xs : List D) (_ : Sto) : Res Vl := lift (biD b xs) st1
def kBi (b : Bi) (vs : List Vl) (st1 : Sto) : Res Vl := (asDs vs st1).bnd (bi3 b st1)
theorem E_bi {b : Bi} {es : Es} : evE cs cl (.bi b es) env st = (evEs cs cl es env st).bnd (kBi b) := by rw [evE]; rfl
def isin3 (t : Ty) (st1 : Sto) (x : D) (_ : Sto) : Res Vl := .ok (.d (.bool (isTy t x))) st1
def kIsin (t : Ty) (v : Vl) (st1 : Sto) : Res Vl := (asD v st1).bnd (isin3 t st1)
theorem E_isin {e : E} {t : Ty} : evE cs cl (.isin e t) env st = (evE cs cl e env st).bnd (kIsin t) := by rw [evE]; rfl
def lcEnd (sto : Bool) (xs : List D) (st2 : Sto) : Res Vl := sel (some sto) (.ok (.r st2.length) (st2 ++ [.lst xs])) (.ok (.d (.list xs)) st2)
theorem lcEnd_t {xs : List D} : lcEnd true xs st = .ok (.r st.length) (st ++ [.lst xs]) := id rfl
theorem lcEnd_f {xs : List D} : lcEnd false xs st = .ok (.d (.list xs)) st := id rfl
def kLc (cs : List D) (cl : Nat → List Vl → Sto → Res Vl) (elt : E) (g : G) (c : E) (env' : Envr) (sto : Bool) (src : Src) (st1 : Sto) : Res Vl := (lcSrc (lcTurn cs cl elt g c env') src st1).calm.bnd (lcEnd sto)
theorem kLc_at {elt c : E} {g : G} {sto : Bool} {src : Src} : kLc cs cl elt g c env sto src st = (lcSrc (lcTurn cs cl elt g c env) src st).calm.bnd (lcEnd sto) := id rfl
theorem E_lc {elt c : E} {g : G} {it : It} {own : List Nat} {sto : Bool} : evE cs cl (.lc elt g it c own sto) env st = (evIt cs cl it env st).bnd (kLc cs cl elt g c (wipeE env own) sto) := by
  rw [evE]
  refine congrArg _ (funext fun src => funext fun st1 => ?_)
  have : ∀ f : D → Sto → Res (Option D), f = lcTurn cs cl elt g c (wipeE env own) → (lcSrc f src st1).calm.bnd (lcEnd sto) = (lcSrc (lcTurn cs cl elt g c (wipeE env own)) src st1).calm.bnd (lcEnd sto) := fun f e => by rw [e]
  refine this _ (funext fun x => funext fun s => ?_)
  unfold lcTurn
  cases setG g (.d x) (wipeE env own) <;> rfl
def selM (cs : List D) (cl : Nat → List Vl → Sto → Res Vl) (m : Mt) (es : Es) (env : Envr) (v : Vl) (st1 : Sto) (o : Bool) : Res Vl := sel (some o) ((evEs cs cl es env st1).bnd (mthD m v)) .no
theorem selM_t {m : Mt} {es : Es} {v : Vl} : selM cs cl m es env v st true = (evEs cs cl es env st).bnd (mthD m v) := id rfl
def kMth (cs : List D) (cl : Nat → List Vl → Sto → Res Vl) (m : Mt) (es : Es) (env : Envr) (v : Vl) (st1 : Sto) : Res Vl := selM cs cl m es env v st1 (isLst v st1)
theorem kMth_at {m : Mt} {es : Es} {v : Vl} : kMth cs cl m es env v st = selM cs cl m es env v st (isLst v st) := id rfl
theorem E_mth {m : Mt} {o : E} {es : Es} : evE cs cl (.mth m o es) env st = (evE cs cl o env st).bnd (kMth cs cl m es env) := by rw [evE]; rfl
def kEs2 (v : Vl) (vs : List Vl) (st2 : Sto) : Res (List Vl) := .ok (v :: vs) st2
def kEs (cs : List D) (cl : Nat → List Vl → Sto → Res Vl) (r : Es) (env : Envr) (v : Vl) (st1 : Sto) : Res (List Vl) := (evEs cs cl r env st1).bnd (kEs2 v)
theorem Es_nil : evEs cs cl .nil env st = .ok [] st := by rw [evEs]
theorem Es_cons {e : E} {r : Es} : evEs cs cl (.cons e r) env st = (evE cs cl e env st).bnd (kEs cs cl r env) := by rw [evEs]; rfl
theorem I_val {e : E} : evIt cs cl (.val e) env st = (evE cs cl e env st).bnd srcOf := by rw [evIt]
theorem I_1 {b : E} : evIt cs cl (.rng1 b) env st = (evE cs cl b env st).bnd rng1D := by rw [evIt]
def kI2 (cs : List D) (cl : Nat → List Vl → Sto → Res Vl) (b : E) (env : Envr) (v : Vl) (st1 : Sto) : Res Src := (evE cs cl b env st1).bnd (rng2D v)
def kI3b (cs : List D) (cl : Nat → List Vl → Sto → Res Vl) (c : E) (env : Envr) (v w : Vl) (st2 : Sto) : Res Src := (evE cs cl c env st2).bnd (rng3D v w)
def kI3 (cs : List D) (cl : Nat → List Vl → Sto → Res Vl) (b c : E) (env : Envr) (v : Vl) (st1 : Sto) : Res Src := (evE cs cl b env st1).bnd (kI3b cs cl c env v)
theorem I_2 {a b : E} : evIt cs cl (.rng2 a b) env st = (evE cs cl a env st).bnd (kI2 cs cl b env) := by rw [evIt]; rfl
theorem I_3 {a b c : E} : evIt cs cl (.rng3 a b c) env st = (evE cs cl a env st).bnd (kI3 cs cl b c env) := by rw [evIt]; rfl
def kZip (cs : List D) (cl : Nat → List Vl → Sto → Res Vl) (b : E) (s : Bool) (env : Envr) (v : Vl) (st1 : Sto) : Res Src := (evE cs cl b env st1).bnd (zipOf s v)
theorem I_zip {a b : E} {s : Bool} : evIt cs cl (.zip a b s) env st = (evE cs cl a env st).bnd (kZip cs cl b s env) := by rw [evIt]; rfl
def kLz (cs : List D) (cl : Nat → List Vl → Sto → Res Vl) (b : E) (s : Bool) (env : Envr) (v : Vl) (st1 : Sto) : Res Vl := (evE cs cl b env st1).bnd (lzD s v)
theorem E_lzip {a b : E} {s : Bool} : evE cs cl (.lzip a b s) env st = (evE cs cl a env st).bnd (kLz cs cl b s env) := by rw [evE]; rfl
theorem E_isx {e : E} {ns : List Str} : evE cs cl (.isx e ns) env st = (evE cs cl e env st).bnd (isxV cs ns) := by rw [evE]
theorem E_fld {e : E} {f : Str} : evE cs cl (.fld e f) env st = (evE cs cl e env st).bnd (fldV cs f) := by rw [evE]
theorem isx_at {ns as : List Str} {c : Str} {fs : List (Str × D)} {b : Bool} (h : ancD (ctOf cs) c = some as) (h2 : xsubs cs c ns = some b) : isxV cs ns (.x c fs) st = .ok (.d (.bool b)) st := by
  unfold isxV
  simp only [h, h2]
  rfl
theorem fld_at {as : List Str} {c f : Str} {fs : List (Str × D)} {x : D} (h : ancD (ctOf cs) c = some as) (h2 : fs.lookup f = some x) : fldV cs f (.x c fs) st = .ok (.d x) st := by
  unfold fldV
  simp only [h, h2]
  rfl
theorem I_enu {e : E} : evIt cs cl (.enu e) env st = (evE cs cl e env st).bnd enuOf := by rw [evIt]
theorem I_chr {e : E} : evIt cs cl (.chr e) env st = (evE cs cl e env st).bnd chrOf := by rw [evIt]
def kEzip (cs : List D) (cl : Nat → List Vl → Sto → Res Vl) (b : E) (s : Bool) (env : Envr) (v : Vl) (st1 : Sto) : Res Src := (evE cs cl b env st1).bnd (ezipOf s v)
theorem I_ezip {a b : E} {s : Bool} : evIt cs cl (.ezip a b s) env st = (evE cs cl a env st).bnd (kEzip cs cl b s env) := by rw [evIt]; rfl
theorem enu_at {x : D} {xs : List D} (h : seqD x = some xs) : enuOf (.d x) st = .ok (.fix (enumD 0 xs)) st := by
  simp only [enuOf, h]
theorem ezip_at {s : Bool} {x y : D} {xs ys : List D} (h1 : seqD x = some xs) (h2 : seqD y = some ys) (h : s = true → xs.length = ys.length) : ezipOf s (.d x) (.d y) st = .ok (.fix (enumD 0 (pairsD xs ys))) st := by
  simp only [ezipOf, h1, h2]
  rw [if_neg fun z => z.2 (h z.1)]
theorem chr_at {x : Str} : chrOf (.d (.str x)) st = .ok (.fix (x.cps.toList.map fun c => .str ⟨#[c]⟩)) st := id rfl
def kCk2 (cs : List D) (cl : Nat → List Vl → Sto → Res Vl) (f : Nat) (arr : List KA) (vs ws : List Vl) (st2 : Sto) : Res Vl := callK cs cl f arr (vs ++ ws) st2
def kCk1 (cs : List D) (cl : Nat → List Vl → Sto → Res Vl) (f : Nat) (arr : List KA) (ks : Es) (env : Envr) (vs : List Vl) (st1 : Sto) : Res Vl := (evEs cs cl ks env st1).bnd (kCk2 cs cl f arr vs)
theorem E_callk {j f : Nat} {arr : List KA} {es ks : Es} : evE cs cl (.callk j f arr es ks) env st = (evEs cs cl es env st).bnd (kCk1 cs cl f arr ks env) := by rw [evE]; rfl
theorem kCk1_at {f : Nat} {arr : List KA} {ks : Es} {vs : List Vl} : kCk1 cs cl f arr ks env vs st = (evEs cs cl ks env st).bnd (kCk2 cs cl f arr vs) := id rfl
theorem ck_at {f : Nat} {arr : List KA} {vs ws ys : List Vl} (h : kaVs cs (vs ++ ws) arr = some ys) : kCk2 cs cl f arr vs ws st = cl f ys st := by
  unfold kCk2 callK
  rw [h]
theorem zip_at {s : Bool} {x y : D} {xs ys : List D} (h1 : seqD x = some xs) (h2 : seqD y = some ys) (h : s = true → xs.length = ys.length) : zipOf s (.d x) (.d y) st = .ok (.fix (pairsD xs ys)) st := by
  simp only [zipOf, h1, h2]
  rw [if_neg fun z => z.2 (h z.1)]
theorem lz_at {s : Bool} {x y : D} {xs ys : List D} (h1 : seqD x = some xs) (h2 : seqD y = some ys) (h : s = true → xs.length = ys.length) : lzD s (.d x) (.d y) st = .ok (.d (.list (pairsD xs ys))) st := by
  unfold lzD
  rw [zip_at h1 h2 h, bnd_k]
def selT (cs : List D) (cl : Nat → List Vl → Sto → Res Vl) (elt : E) (env : Envr) (st : Sto) (o : Option Bool) : Res (Option D) := sel o ((evE cs cl elt env st).bnd keepD) (.ok none st)
theorem selT_tt {elt : E} : selT cs cl elt env st (some true) = (evE cs cl elt env st).bnd keepD := id rfl
theorem selT_ff {elt : E} : selT cs cl elt env st (some false) = .ok none st := id rfl
def kTurn (cs : List D) (cl : Nat → List Vl → Sto → Res Vl) (elt : E) (env : Envr) (b : Vl) (s1 : Sto) : Res (Option D) := selT cs cl elt env s1 (tru b s1)
theorem turn_lc {elt c : E} {g : G} {x : D} {env' : Envr} (h : setG g (.d x) env = some env') : lcTurn cs cl elt g c env x st = (evE cs cl c env' st).bnd (kTurn cs cl elt env') := by
  unfold lcTurn
  rw [h]
  rfl
theorem turn_for {g : G} {b : Ss} {x : D} {env' : Envr} (h : setG g (.d x) env = some env') : forTurn cs cl W g b x env st = evSs cs cl W b env' st := by
  unfold forTurn
  rw [h]
theorem srcL {xs : List D} : srcOf (.d (.list xs)) st = .ok (.fix xs) st := id rfl
theorem srcT {xs : List D} : srcOf (.d (.tuple xs)) st = .ok (.fix xs) st := id rfl
theorem biLenL {xs : List D} : biD .len [.list xs] = some (.int xs.length) := id rfl
theorem biLenT {xs : List D} : biD .len [.tuple xs] = some (.int xs.length) := id rfl
theorem biAbs {i : Int} : biD .abs [.int i] = some (.int (if i < 0 then -i else i)) := id rfl
theorem biRepr {x : D} : biD .repr [x] = showD x := id rfl
theorem biMin {i j : Int} : biD .min [.int i, .int j] = some (.int (if j < i then j else i)) := id rfl
theorem biMax {i j : Int} : biD .max [.int i, .int j] = some (.int (if j > i then j else i)) := id rfl
theorem biTupL {xs : List D} : biD .tuple [.list xs] = some (.tuple xs) := id rfl
theorem biTupT {xs : List D} : biD .tuple [.tuple xs] = some (.tuple xs) := id rfl
theorem biLstL {xs : List D} : biD .list [.list xs] = some (.list xs) := id rfl
theorem biLstT {xs : List D} : biD .list [.tuple xs] = some (.list xs) := id rfl
theorem biIntI {i : Int} : biD .int [.int i] = some (.int i) := id rfl
theorem biIntB {b : Bool} : biD .int [.bool b] = some (.int (if b then 1 else 0)) := id rfl
theorem biAll {xs : List D} : biD .all [.list xs] = (blsD xs).map fun bs => .bool (bs.all id) := id rfl
theorem biAny {xs : List D} : biD .any [.list xs] = (blsD xs).map fun bs => .bool (bs.any id) := id rfl
theorem biSum {xs : List D} : biD .sum [.list xs] = (intsD xs).map fun ns => .int ns.sum := id rfl
/-! loops over written items, by names -/
def lcT (cs : List D) (cl : Nat → List Vl → Sto → Res Vl) (elt c : E) (o : Option Envr) (st : Sto) : Res (Option D) := match o with
  | some env => (evE cs cl c env st).bnd (kTurn cs cl elt env)
  | none => .no
theorem lcT_at {elt c : E} {g : G} {x : D} : lcTurn cs cl elt g c env x st = lcT cs cl elt c (setG g (.d x) env) st := by
  unfold lcTurn lcT
  cases setG g (.d x) env <;> rfl
theorem lcT_some {elt c : E} : lcT cs cl elt c (some env) st = (evE cs cl c env st).bnd (kTurn cs cl elt env) := id rfl
def lcK (f : D → Sto → Res (Option D)) (xs acc : List D) (o : Option D) (st : Sto) : Res (List D) := match o with
  | some y => sel (some (decide (acc.length < sizeLine))) (lcFix f xs (acc ++ [y]) st) .no
  | none => lcFix f xs acc st
theorem Lc_nil {f : D → Sto → Res (Option D)} {acc : List D} : lcFix f [] acc st = .ok acc st := id rfl
theorem Lc_cons {f : D → Sto → Res (Option D)} {x : D} {xs acc : List D} : lcFix f (x :: xs) acc st = (f x st).calm.bnd (lcK f xs acc) := by
  rw [lcFix]
  refine congrArg _ (funext fun o => funext fun s => ?_)
  cases o with
  | none => rfl
  | some y =>
    unfold lcK
    by_cases h : acc.length < sizeLine
    · simp only [h, if_true, decide_true, sel_tt]
    · simp only [h, if_false, decide_false, sel_ff]
def lcG (f : D → Sto → Res (Option D)) (xs acc : List D) (y : D) (st : Sto) (b : Bool) : Res (List D) := sel (some b) (lcFix f xs (acc ++ [y]) st) .no
theorem lcK_some {f : D → Sto → Res (Option D)} {xs acc : List D} {y : D} : lcK f xs acc (some y) st = lcG f xs acc y st (decide (acc.length < sizeLine)) := id rfl
theorem lcG_t {f : D → Sto → Res (Option D)} {xs acc : List D} {y : D} : lcG f xs acc y st true = lcFix f xs (acc ++ [y]) st := id rfl
theorem lcK_none {f : D → Sto → Res (Option D)} {xs acc : List D} : lcK f xs acc none st = lcFix f xs acc st := id rfl
def forT (cs : List D) (cl : Nat → List Vl → Sto → Res Vl) (W : Nat) (b : Ss) (o : Option Envr) (st : Sto) : Res Fl := match o with
  | some env => evSs cs cl W b env st
  | none => .no
theorem forT_at {g : G} {b : Ss} {x : D} : forTurn cs cl W g b x env st = forT cs cl W b (setG g (.d x) env) st := by
  unfold forTurn forT
  cases setG g (.d x) env <;> rfl
theorem forT_some {b : Ss} : forT cs cl W b (some env) st = evSs cs cl W b env st := id rfl
def forK (f : D → Envr → Sto → Res Fl) (xs : List D) (fl : Fl) (st : Sto) : Res Fl := match fl with
    | .nx env' => forFix f xs env' st
    | .ct env' => forFix f xs env' st
    | .bk env' => .ok (.nx env') st
    | .ret v => .ok (.ret v) st
    | .rtt vs => .ok (.rtt vs) st
theorem For_nil {f : D → Envr → Sto → Res Fl} : forFix f [] env st = .ok (.nx env) st := id rfl
theorem For_cons {f : D → Envr → Sto → Res Fl} {x : D} {xs : List D} : forFix f (x :: xs) env st = (f x env st).bnd (forK f xs) := by
  rw [forFix]
  refine congrArg _ (funext fun fl => funext fun s => ?_)
  cases fl <;> rfl
theorem forK_nx {f : D → Envr → Sto → Res Fl} {xs : List D} : forK f xs (.nx env) st = forFix f xs env st := id rfl
theorem forK_ct {f : D → Envr → Sto → Res Fl} {xs : List D} : forK f xs (.ct env) st = forFix f xs env st := id rfl
theorem forK_bk {f : D → Envr → Sto → Res Fl} {xs : List D} : forK f xs (.bk env) st = .ok (.nx env) st := id rfl
theorem forK_ret {f : D → Envr → Sto → Res Fl} {xs : List D} {v : Vl} : forK f xs (.ret v) st = .ok (.ret v) st := id rfl
theorem forK_rtt {f : D → Envr → Sto → Res Fl} {xs : List D} {vs : List Vl} : forK f xs (.rtt vs) st = .ok (.rtt vs) st := id rfl
theorem lift_some {x : D} : lift (some x) st = .ok (.d x) st := id rfl
theorem asD_d {x : D} : asD (.d x) st = .ok x st := id rfl
theorem asD_r {n : Nat} {xs : List D} (h : st[n]? = some (.lst xs)) : asD (.r n) st = .ok (.list xs) st := by
  unfold asD rd; simp only [h]
def outK (n : Nat) (fl : Fl) (st : Sto) : Res Vl := match fl with
  | .ret v => .ok v st
  | .nx _ => .ok (.d .none) st
  | .rtt vs => lift ((frzV n st vs).map .tuple) st
  | _ => .no
theorem outK_ret {n : Nat} {v : Vl} : outK n (.ret v) st = .ok v st := id rfl
theorem outK_nx {n : Nat} : outK n (.nx env) st = .ok (.d .none) st := id rfl
theorem outK_rtt {n : Nat} {vs : List Vl} : outK n (.rtt vs) st = lift ((frzV n st vs).map .tuple) st := id rfl
theorem out_at {n : Nat} {r : Res Fl} : outOf n r = r.bnd (outK n) := by
  unfold outOf
  refine congrArg _ (funext fun fl => funext fun st => ?_)
  cases fl <;> rfl
end
/-- what a function tells, by a name -/
def backK (pure : Bool) (st : Sto) (refs : List Nat) (Q : Vl → Sto → Prop) (v : Vl) (s : Sto) : Prop := Ok (backOut pure st refs (.ok v s)) Q
theorem backK_d {pure : Bool} {st s : Sto} {refs : List Nat} {Q : Vl → Sto → Prop} {x : D} : backK pure st refs Q (.d x) s = Q (.d x) (wback st refs s) := by
  unfold backK backOut backV
  rw [ok_ok]
theorem backK_l {st s : Sto} {refs : List Nat} {Q : Vl → Sto → Prop} {n : Nat} {xs : List D} (h : refs[n]? = none) (h2 : s[n]? = some (.lst xs)) : backK true st refs Q (.r n) s = Q (.d (.list xs)) (wback st refs s) := by
  unfold backK backOut backV
  simp only [h, h2]
  rw [ok_ok]
section
variable {cs : List D} {T : List FD} {W k : Nat}
/-- a call, by what is wished -/
theorem okP {f : Nat} {d : FD} {args : List Vl} {xs : List D} {st : Sto} {Q : Vl → Sto → Prop} (h : T[f]? = some d) (hl : args.length = d.np) (ha : dAll args = some xs)
    (hr : Ok (outOf 0 (evSs cs (callF cs T W k) W d.body (startE d.N (xs.map .d)) [])) (backK d.pure st [] Q)) : Ok (callF cs T W (k + 1) f args st) Q := by
  obtain ⟨h1, h2⟩ := dAll_refs (j := 0) ha
  unfold callF
  rw [h]
  simp only [hl, h1, List.nodup_nil, and_self, if_true, objsA, h2, List.length_nil]
  obtain ⟨v, s, e, q⟩ := hr.ex
  rw [e]
  exact q
theorem okI {f : Nat} {d : FD} {args : List Vl} {st os : Sto} {Q : Vl → Sto → Prop} (h : T[f]? = some d) (hl : args.length = d.np) (hn : (refsA args).Nodup) (ho : objsA st (refsA args) = some os)
    (hr : Ok (outOf (refsA args).length (evSs cs (callF cs T W k) W d.body (startE d.N (locA args 0)) os)) (backK d.pure st (refsA args) Q)) : Ok (callF cs T W (k + 1) f args st) Q := by
  unfold callF
  rw [h]
  simp only [hl, hn, and_self, if_true, ho]
  obtain ⟨v, s, e, q⟩ := hr.ex
  rw [e]
  exact q
/-- the first thing of the store is handed in -/
theorem ok0 {f : Nat} {d : FD} {xs : List D} {o : Ob} {rest : Sto} {Q : Vl → Sto → Prop} (h : T[f]? = some d) (hl : xs.length + 1 = d.np)
    (hr : Ok (outOf 1 (evSs cs (callF cs T W k) W d.body (startE d.N (.r 0 :: xs.map .d)) [o])) (backK d.pure (o :: rest) [0] Q)) : Ok (callF cs T W (k + 1) f (.r 0 :: xs.map .d) (o :: rest)) Q := by
  have ha : dAll (xs.map Vl.d) = some xs := by
    clear hr hl
    induction xs with
    | nil => rfl
    | cons x r ih => simp [dAll, ih]
  obtain ⟨h1, h2⟩ := dAll_refs (j := 1) ha
  have e1 : refsA (.r 0 :: xs.map .d) = [0] := by simp [refsA, h1]
  have e2 : locA (.r 0 :: xs.map .d) 0 = .r 0 :: xs.map .d := by simp [locA, h2]
  refine okI (os := [o]) h (by simpa using hl) (by rw [e1]; simp) (by rw [e1]; rfl) ?_
  rw [e1, e2]
  exact hr
end
/-! loops -/
section
variable {st : Sto}
/-- a for's turns: I tells of what is left -/
theorem okFor {f : D → Envr → Sto → Res Fl} {Q : Fl → Sto → Prop} (I : List D → Envr → Sto → Prop) : ∀ {xs : List D} {env : Envr} {st : Sto}, I xs env st →
    (∀ x r env st, I (x :: r) env st → Ok (f x env st) fun fl st' => match fl with
      | .nx e => I r e st'
      | .ct e => I r e st'
      | .bk e => Q (.nx e) st'
      | .ret v => Q (.ret v) st'
      | .rtt vs => Q (.rtt vs) st') → (∀ env st, I [] env st → Q (.nx env) st) → Ok (forFix f xs env st) Q
  | [], env, st, h, _, hd => .mk' (hd env st h)
  | x :: r, env, st, h, ht, hd => by
    obtain ⟨fl, st', e, q⟩ := (ht x r env st h).ex
    rw [forFix, e, bnd_k]
    cases fl with
    | nx e => exact okFor I q ht hd
    | ct e => exact okFor I q ht hd
    | bk e => exact .mk' q
    | ret v => exact .mk' q
    | rtt vs => exact .mk' q
/-- a comprehension's turns: I tells of what was made and what is left -/
theorem okLc {f : D → Sto → Res (Option D)} {Q : List D → Sto → Prop} (I : List D → List D → Sto → Prop) : ∀ {xs acc : List D} {st : Sto}, I acc xs st → acc.length + xs.length ≤ sizeLine →
    (∀ acc x r st, I acc (x :: r) st → Ok (f x st) fun o st' => match o with
      | some y => I (acc ++ [y]) r st'
      | none => I acc r st') → (∀ acc st, I acc [] st → Q acc st) → Ok (lcFix f xs acc st) Q
  | [], acc, st, h, _, _, hd => .mk' (hd acc st h)
  | x :: r, acc, st, h, hz, ht, hd => by
    simp only [List.length_cons] at hz
    obtain ⟨o, st', e, q⟩ := (ht acc x r st h).ex
    rw [lcFix, e, calm_ok, bnd_ok]
    cases o with
    | some y =>
      simp only
      rw [if_pos (by omega)]
      exact okLc I q (by simp; omega) ht hd
    | none => exact okLc I q (by omega) ht hd
/-- each item draws: every new one is as told, the state too -/
theorem okLcA {f : D → Sto → Res (Option D)} {Q : List D → Sto → Prop} (P : D → Prop) (J : Nat → Sto → Prop) {xs : List D} {st : Sto} (h0 : J xs.length st) (hz : xs.length ≤ sizeLine)
    (ht : ∀ n x st, x ∈ xs → J (n + 1) st → Ok (f x st) fun o st' => ∃ y, o = some y ∧ P y ∧ J n st') (hd : ∀ ys st, (∀ y ∈ ys, P y) → ys.length = xs.length → J 0 st → Q ys st) : Ok (lcFix f xs [] st) Q := by
  refine okLc (fun acc r st => (∀ y ∈ acc, P y) ∧ acc.length + r.length = xs.length ∧ (∀ x ∈ r, x ∈ xs) ∧ J r.length st) ⟨(fun _ z => nomatch z), (by simp), (fun _ z => z), h0⟩ (by simpa using hz) (fun acc x r st ⟨h1, h2, h3, h4⟩ => ?_) fun acc st ⟨h1, h2, h3, h4⟩ => hd acc st h1 (by simpa using h2) h4
  refine (ht r.length x st (h3 x List.mem_cons_self) h4).mono fun o s' ⟨y, e, p, j⟩ => ?_
  subst e
  refine ⟨fun z hz => ?_, by simp at h2 ⊢; omega, fun z hz => h3 z (List.mem_cons_of_mem _ hz), j⟩
  rcases List.mem_append.mp hz with q | q
  · exact h1 z q
  · rw [List.mem_singleton.mp q]; exact p
end
/-! data that can be shown and compared -/
structure Fit (n d : Nat) (x : D) : Prop where
  fine : fine x = true
  dep : x.depth ≤ d
  nd : nd x ≤ n
  lay : x.canLay0 = true
theorem Fit.mono {n d n' d' : Nat} {x : D} (h : Fit n d x) (hn : n ≤ n') (hd : d ≤ d') : Fit n' d' x := ⟨h.fine, Nat.le_trans h.dep hd, Nat.le_trans h.nd hn, h.lay⟩
theorem layA_all : ∀ {xs : List D}, PyData.canLayAll0 xs = true ↔ ∀ x ∈ xs, x.canLay0 = true
  | [] => by simp [PyData.canLayAll0]
  | x :: xs => by simp [PyData.canLayAll0, layA_all (xs := xs)]
theorem fineA_all : ∀ {xs : List D}, fineA xs = true ↔ ∀ x ∈ xs, fine x = true
  | [] => by simp [fineA]
  | x :: xs => by simp [fineA, fineA_all (xs := xs)]
theorem ndA_le {n : Nat} : ∀ {xs : List D}, (∀ x ∈ xs, nd x ≤ n) → ndA xs ≤ xs.length * n
  | [], _ => by simp [ndA]
  | x :: xs, h => by
    have h1 := h x List.mem_cons_self
    have h2 := ndA_le (n := n) (xs := xs) fun y hy => h y (List.mem_cons_of_mem _ hy)
    simp only [ndA, List.length_cons, Nat.succ_mul]
    omega
theorem le_ndA : ∀ {xs : List D} {x : D}, x ∈ xs → nd x ≤ ndA xs
  | y :: xs, x, h => by
    simp only [ndA]
    rcases List.mem_cons.mp h with e | e
    · subst e; omega
    · have := le_ndA e; omega
theorem nd_pos (x : D) : 1 ≤ nd x := by cases x <;> simp [nd]
theorem len_ndA : ∀ xs : List D, xs.length ≤ ndA xs
  | [] => by simp [ndA]
  | x :: xs => by
    have := len_ndA xs
    have := nd_pos x
    simp only [ndA, List.length_cons]
    omega
theorem depA_le {d : Nat} : ∀ {xs : List D}, (∀ x ∈ xs, x.depth ≤ d) → PyData.depthAll xs ≤ d
  | [], _ => by simp [PyData.depthAll]
  | x :: xs, h => by
    rw [PyData.depthAll]
    exact Nat.max_le.mpr ⟨h x List.mem_cons_self, depA_le fun y hy => h y (List.mem_cons_of_mem _ hy)⟩
theorem le_depA : ∀ {xs : List D} {x : D}, x ∈ xs → x.depth ≤ PyData.depthAll xs
  | y :: xs, x, h => by
    rw [PyData.depthAll]
    rcases List.mem_cons.mp h with e | e
    · subst e; exact Nat.le_max_left _ _
    · exact Nat.le_trans (le_depA e) (Nat.le_max_right _ _)
theorem Fit.tup {n d m : Nat} {xs : List D} (h : ∀ x ∈ xs, Fit n d x) (hm : xs.length ≤ m) : Fit (m * n + 1) (d + 1) (.tuple xs) := by
  refine ⟨by rw [Ev.fine]; exact fineA_all.mpr fun x hx => (h x hx).fine, ?_, ?_, ?_⟩
  · have := depA_le fun x hx => (h x hx).dep
    simp only [PyData.depth]; omega
  · have h1 := ndA_le fun x hx => (h x hx).nd
    have h2 := Nat.mul_le_mul_right n hm
    simp only [Ev.nd]; omega
  · simp only [PyData.canLay0]; exact layA_all.mpr fun x hx => (h x hx).lay
theorem Fit.list {n d m : Nat} {xs : List D} (h : ∀ x ∈ xs, Fit n d x) (hm : xs.length ≤ m) : Fit (m * n + 1) (d + 1) (.list xs) := by
  refine ⟨by rw [Ev.fine]; exact fineA_all.mpr fun x hx => (h x hx).fine, ?_, ?_, ?_⟩
  · have := depA_le fun x hx => (h x hx).dep
    simp only [PyData.depth]; omega
  · have h1 := ndA_le fun x hx => (h x hx).nd
    have h2 := Nat.mul_le_mul_right n hm
    simp only [Ev.nd]; omega
  · simp only [PyData.canLay0]; exact layA_all.mpr fun x hx => (h x hx).lay
theorem Fit.ofT {n d : Nat} {xs : List D} (h : Fit n (d + 1) (.tuple xs)) : (∀ x ∈ xs, Fit n d x) ∧ xs.length ≤ n := by
  have h1 : fineA xs = true := by have := h.fine; rwa [Ev.fine] at this
  have h2 : PyData.depthAll xs ≤ d := by have := h.dep; simp only [PyData.depth] at this; omega
  have h3 : ndA xs + 1 ≤ n := by have := h.nd; simpa only [Ev.nd] using this
  have h4 : PyData.canLayAll0 xs = true := by have := h.lay; simpa only [PyData.canLay0] using this
  refine ⟨fun x hx => ⟨fineA_all.mp h1 x hx, Nat.le_trans (le_depA hx) h2, ?_, layA_all.mp h4 x hx⟩, ?_⟩
  · have := le_ndA hx; omega
  · have := len_ndA xs; omega
theorem Fit.show {n d : Nat} {x : D} (h : Fit n d x) (hn : n ≤ 8000 := by decide) (hd : d ≤ 64 := by decide) : showD x = some (.str x.shown) := show_ok h.fine (Nat.le_trans h.dep hd) (Nat.le_trans h.nd hn)
theorem Fit.shaped {n d : Nat} {x : D} (h : Fit n d x) (hd : d ≤ 32 := by decide) : SeqAt.shaped x = true := by
  unfold SeqAt.shaped
  rw [Bool.and_eq_true]
  exact ⟨h.lay, decide_eq_true (Nat.le_trans (Nat.le_trans h.dep hd) (by decide))⟩
theorem Fit.int {i : Int} (h : i.natAbs < 2 ^ 1000) : Fit 1 0 (.int i) := by
  refine ⟨?_, by simp [PyData.depth], by simp [Ev.nd], by simp [PyData.canLay0]⟩
  have := Fr.log2_lt h (by decide)
  simp only [Ev.fine, decide_eq_true_eq]; omega
theorem Fit.non : Fit 1 0 .none := ⟨by simp [Ev.fine], by simp [PyData.depth], by simp [Ev.nd], by simp [PyData.canLay0]⟩
theorem Fit.bl (b : Bool) : Fit 1 0 (.bool b) := ⟨by simp [Ev.fine], by simp [PyData.depth], by simp [Ev.nd], by simp [PyData.canLay0]⟩
theorem Fit.q {x : Rat} {m : Nat} (h : Q m x) (hm : m ≤ 1900 := by decide) (h0 : 0 < m := by decide) : Fit 3 2 (q2 x) := ⟨fine_q h hm h0, dep_q x, by rw [nd_q]; exact Nat.le_refl _, (Bool.and_eq_true_iff.mp (shaped_q x)).1⟩
end Ev
end
section
set_option maxRecDepth 10000
/-! draws by what is wished; the feed as one opaque thing that n more draws can be asked of -/
namespace Ev
open PySem L2
section
variable {cs : List D} {T : List FD} {W k : Nat}
def Fd (n : Nat) (o : Ob) : Prop := ∃ ns s r c, o = fdOb ns s r c ∧ 0 ≤ c ∧ c + n ≤ 1000000
theorem Fd.mono {n m : Nat} {o : Ob} (h : Fd n o) (hm : m ≤ n) : Fd m o := by
  obtain ⟨ns, s, r, c, e, h0, h1⟩ := h
  exact ⟨ns, s, r, c, e, h0, by omega⟩
theorem drawOk {i n : Nat} {nm x0 x1 x2 x3 x4 : Str} (h : T[i]? = some ⟨nm, 2, [x0, x1, x2, x3, x4], bDrw, false, false⟩) {many : Int} {o : Ob} {rest : Sto} {Q : Vl → Sto → Prop} (F : Fd (n + 1) o) (hm : 0 < many) (hm2 : many < 2 ^ 200)
    (hQ : ∀ y o', 0 ≤ y → y < many → Fd n o' → Q (.d (.int y)) (o' :: rest)) : Ok (callF cs T W (k + 1) i [.r 0, .d (.int many)] (o :: rest)) Q := by
  obtain ⟨ns, s, r, c, rfl, h0, h1⟩ := F
  have hm3 : many.natAbs.log2 < 9000 := by
    have := Fr.log2_lt (n := many.natAbs) (m := 200) (by omega) (by decide)
    omega
  obtain ⟨y, s', r', e, a, b⟩ := fdRun (cs := cs) (W := W) (k := k) (ns := ns) (s := s) (r := r) (c := c) (rest := rest) h hm hm3 h0 (by omega)
  rw [e, ok_ok]
  exact hQ y _ a b ⟨ns, s', r', c + 1, rfl, by omega, by omega⟩
/-- the feed's making -/
def bFeed : Ss := .cons (.ret (.lstS (.cons (.slc (.var 0) .nil (.int 63)) (.cons (.int 0) (.cons (.int 0) (.cons (.int 0) .nil)))))) .nil
theorem feedRun {i : Nat} {nm x : Str} (h : T[i]? = some ⟨nm, 1, [x], bFeed, false, false⟩) {ns : List Int} : ∃ o, Fd 1000000 o ∧ callF cs T W (k + 1) i [.d (.list (ns.map .int))] [] = .ok (.r 0) [o] := by
  refine ⟨fdOb (ns.take 63) 0 0 0, ⟨_, _, _, _, rfl, by omega, by omega⟩, callN h rfl rfl rfl (xs := [.list (ns.map .int)]) ?_⟩
  show outOf 0 (evSs cs (callF cs T W k) W bFeed [some (.d (.list (ns.map .int)))] []) = _
  simp only [bFeed, evSs, evS, evE, evEs, List.getElem?_cons_zero, bnd_ok, ptOf, isNilE, sel_tt, sel_ff, intV, asD, rd, lift, slcD, cut63, dAll, Option.map_some, List.length_cons, List.length_nil, outOf]
  rfl
end
/-! slices -/
theorem cut_mem {xs : List D} {lo hi : Option Int} {x : D} (h : x ∈ cutD xs lo hi) : x ∈ xs := List.mem_of_mem_drop (List.mem_of_mem_take h)
theorem cut_len {xs : List D} {lo hi : Option Int} : (cutD xs lo hi).length ≤ xs.length := by
  unfold cutD
  rw [List.length_take, List.length_drop]
  omega
theorem catT {a b : List D} (h : a.length + b.length ≤ sizeLine) : binD .add (.tuple a) (.tuple b) = some (.tuple (a ++ b)) := by
  unfold binD; simp only; rw [if_pos h]
theorem catL {a b : List D} (h : a.length + b.length ≤ sizeLine) : binD .add (.list a) (.list b) = some (.list (a ++ b)) := by
  unfold binD; simp only; rw [if_pos h]
theorem slcT {xs : List D} {lo hi : Option Int} : slcD (.tuple xs) lo hi = some (.tuple (cutD xs lo hi)) := rfl
theorem slcL {xs : List D} {lo hi : Option Int} : slcD (.list xs) lo hi = some (.list (cutD xs lo hi)) := rfl
theorem pickOk {xs : List D} {y : Int} (h0 : 0 ≤ y) (h1 : y < xs.length) : ∃ v, L2.atI xs y = some v ∧ v ∈ xs := pick h0 h1
theorem rng1_ok {st : Sto} {j : Int} (h0 : 0 ≤ j) (h1 : j < 2 ^ 62) : rng1D (.d (.int j)) st = .ok (.fix (rngs 0 j.toNat)) st := by
  unfold rng1D; simp only; rw [if_pos ⟨by omega, h1⟩]
theorem rng1_nat {st : Sto} {j : Nat} (h : j ≤ 1000000) : rng1D (.d (.int (j : Int))) st = .ok (.fix (rngs 0 j)) st := by
  rw [rng1_ok (by omega) (by omega), Int.toNat_natCast]
theorem rngs_int : ∀ (n : Nat) (lo : Int) (x : D), x ∈ rngs lo n → ∃ i, x = .int i
  | 0, _, _, h => nomatch h
  | n + 1, lo, x, h => by
    rcases List.mem_cons.mp h with e | e
    · exact ⟨lo, e⟩
    · exact rngs_int n _ x e
end Ev
end
section
set_option maxRecDepth 10000
/-! loops, once more -/
namespace Ev
open PySem L2
/-- a comprehension that keeps one thing of each item -/
theorem lcM {f : D → Sto → Res (Option D)} {g : D → D} {st : Sto} : ∀ (xs acc : List D), (∀ x ∈ xs, f x st = .ok (some (g x)) st) → acc.length + xs.length ≤ sizeLine → lcFix f xs acc st = .ok (acc ++ xs.map g) st
  | [], acc, _, _ => by simp [lcFix]
  | x :: xs, acc, h, hz => by
    simp only [List.length_cons] at hz
    rw [lcFix, h x List.mem_cons_self, calm_ok, bnd_ok]
    simp only
    rw [if_pos (by omega), lcM xs (acc ++ [g x]) (fun y hy => h y (List.mem_cons_of_mem _ hy)) (by simp; omega)]
    simp
theorem lcM0 {f : D → Sto → Res (Option D)} {st : Sto} (g : D → D) (xs : List D) (h : ∀ x ∈ xs, f x st = .ok (some (g x)) st) (hz : xs.length ≤ sizeLine) : lcFix f xs [] st = .ok (xs.map g) st := by
  rw [lcM (g := g) xs [] h (by simpa using hz)]; rfl
/-- a comprehension that keeps some of the items -/
theorem lcP {f : D → Sto → Res (Option D)} {p : D → Bool} {st : Sto} : ∀ (xs acc : List D), (∀ x ∈ xs, f x st = .ok (if p x then some x else none) st) → acc.length + xs.length ≤ sizeLine → lcFix f xs acc st = .ok (acc ++ xs.filter p) st
  | [], acc, _, _ => by simp [lcFix]
  | x :: xs, acc, h, hz => by
    simp only [List.length_cons] at hz
    rw [lcFix, h x List.mem_cons_self, calm_ok, bnd_ok]
    cases hp : p x with
    | true =>
      simp only [if_true]
      rw [if_pos (by omega), lcP xs (acc ++ [x]) (fun y hy => h y (List.mem_cons_of_mem _ hy)) (by simp; omega)]
      simp [hp]
    | false =>
      simp only [Bool.false_eq_true, if_false]
      rw [lcP xs acc (fun y hy => h y (List.mem_cons_of_mem _ hy)) (by omega)]
      simp [hp]
/-- a comprehension over a list of things by a map -/
theorem lcG' {α : Type} {f : D → Sto → Res (Option D)} {st : Sto} (d : α → D) (g : α → D) (xs : List α) (h : ∀ x ∈ xs, f (d x) st = .ok (some (g x)) st) (hz : xs.length ≤ sizeLine) : lcFix f (xs.map d) [] st = .ok (xs.map g) st := by
  have key : ∀ (xs : List α) (acc : List D), (∀ x ∈ xs, f (d x) st = .ok (some (g x)) st) → acc.length + xs.length ≤ sizeLine → lcFix f (xs.map d) acc st = .ok (acc ++ xs.map g) st := by
    intro xs
    induction xs with
    | nil => intro acc _ _; simp [lcFix]
    | cons x xs ih =>
      intro acc h hz
      simp only [List.length_cons] at hz
      rw [List.map_cons, lcFix, h x List.mem_cons_self, calm_ok, bnd_ok]
      simp only
      rw [if_pos (by omega), ih (acc ++ [g x]) (fun y hy => h y (List.mem_cons_of_mem _ hy)) (by simp; omega)]
      simp
  rw [key xs [] h (by simpa using hz)]; rfl
/-- a for over a mutable list that stays -/
theorem okObj {f : D → Envr → Sto → Res Fl} {Q : Fl → Sto → Prop} {n : Nat} {xs : List D} (I : List D → Envr → Sto → Prop) (hI : ∀ l env st, I l env st → st[n]? = some (.lst xs)) {env : Envr} {st : Sto} (h0 : I xs env st)
    (ht : ∀ x r env st, I (x :: r) env st → Ok (f x env st) fun fl st' => match fl with
      | .nx e => I r e st'
      | .ct e => I r e st'
      | .bk e => Q (.nx e) st'
      | .ret v => Q (.ret v) st'
      | .rtt vs => Q (.rtt vs) st') (hd : ∀ env st, I [] env st → Q (.nx env) st) : Ok (forObj f n xs.length xs.length 0 env st) Q := by
  have key : ∀ (r p : List D) (env : Envr) (st : Sto), xs = p ++ r → I r env st → Ok (forObj f n xs.length r.length p.length env st) Q := by
    intro r
    induction r with
    | nil =>
      intro p env st e h
      have q := hI _ _ _ h
      have : p.length = xs.length := by rw [e]; simp
      simp only [List.length_nil, forObj, stillAt, q, this, beq_self_eq_true, Bool.and_self, if_true]
      exact .mk' (hd env st h)
    | cons x r ih =>
      intro p env st e h
      have q := hI _ _ _ h
      have hx : xs[p.length]? = some x := by rw [e]; simp
      rw [List.length_cons, forObj, itemAt, q]
      simp only [if_true, hx]
      obtain ⟨fl, st', e1, q1⟩ := (ht x r env st h).ex
      rw [e1]
      have e2 : p.length + 1 = (p ++ [x]).length := by simp
      cases fl with
      | nx e3 => rw [bnd_k]; simp only; rw [e2]; exact ih (p ++ [x]) e3 st' (by rw [e]; simp) q1
      | ct e3 => rw [bnd_k]; simp only; rw [e2]; exact ih (p ++ [x]) e3 st' (by rw [e]; simp) q1
      | bk e3 => exact .mk' q1
      | ret v => exact .mk' q1
      | rtt v => exact .mk' q1
  exact key xs [] env st rfl h0
theorem rngs_nn : ∀ (n : Nat) (lo : Int) (x : D), x ∈ rngs lo n → ∃ i : Int, x = .int i ∧ lo ≤ i ∧ i < lo + n
  | 0, _, _, h => nomatch h
  | n + 1, lo, x, h => by
    rcases List.mem_cons.mp h with e | e
    · exact ⟨lo, e, Int.le_refl _, by omega⟩
    · obtain ⟨i, h1, h2, h3⟩ := rngs_nn n _ x e
      exact ⟨i, h1, by omega, by omega⟩
theorem intsM {α : Type} (g : α → Int) : ∀ xs : List α, intsD (xs.map fun x => .int (g x)) = some (xs.map g)
  | [] => rfl
  | x :: xs => by rw [List.map_cons, intsD, intsM g xs]; rfl
theorem atM {α : Type} {d : α → D} {xs : List α} {j : Nat} {x : α} (h : xs[j]? = some x) : atI (xs.map d) ((j : Nat) : Int) = some (d x) := by
  refine atI_nat ?_
  rw [List.getElem?_map, h]; rfl
/-- a run by a first part -/
theorem Ok.bind {α β : Type} {r : Res α} {f : α → Sto → Res β} {P : α → Sto → Prop} {Q : β → Sto → Prop} (h : Ok r P) (q : ∀ a s, P a s → Ok (f a s) Q) : Ok (r.bnd f) Q := by
  rw [ok_bnd]
  exact h.mono q
/-- a call that raises -/
theorem xoP {cs : List D} {T : List FD} {W k f : Nat} {d : FD} {args : List Vl} {xs : List D} {st : Sto} {c : Str} {fs : List (Str × D)} (h : T[f]? = some d) (hl : args.length = d.np) (ha : dAll args = some xs)
    (hr : Xo (evSs cs (callF cs T W k) W d.body (startE d.N (xs.map .d)) []) c fs fun _ => True) : callF cs T W (k + 1) f args st = .ex c fs st := by
  obtain ⟨h1, h2⟩ := dAll_refs (j := 0) ha
  obtain ⟨s, e, _⟩ := hr.ex
  unfold callF
  rw [h]
  simp only [hl, h1, List.nodup_nil, and_self, if_true, objsA, h2, List.length_nil, e, outOf, bnd_ex, backOut]
  cases s <;> rfl
end Ev
end
section
set_option maxRecDepth 10000
/-! draws of the laws k55 to k72 -/
namespace Ev
open PySem L2
def bDrf : Ss := .cons (.put (.var 0) (.int 3) (.bin .add (.sub (.var 0) (.int 3)) (.int 1))) (.cons (.ifs (.cmp .gt (.sub (.var 0) (.int 2)) (.int 0)) (.cons (.asg (.var 5) (.bin .mod (.sub (.var 0) (.int 2)) (.var 1))) (.cons (.put (.var 0) (.int 2) (.bin .fdiv (.sub (.var 0) (.int 2)) (.var 1))) (.cons (.ret (.var 5)) .nil))) .nil) (.cons (.asg (.var 2) (.sub (.var 0) (.int 1))) (.cons (.put (.var 0) (.int 1) (.bin .add (.var 2) (.int 1))) (.cons (.asg (.var 3) (.ifx (.cmp .gt (.bi .len (.cons (.sub (.var 0) (.int 0)) .nil)) (.int 0)) (.sub (.sub (.var 0) (.int 0)) (.bin .mod (.var 2) (.bi .len (.cons (.sub (.var 0) (.int 0)) .nil)))) (.int 7))) (.cons (.ifs (.and (.cmp .ge (.var 3) (.bin .pow (.int 10) (.int 18))) (.cmp .lt (.var 2) (.bi .len (.cons (.sub (.var 0) (.int 0)) .nil)))) (.cons (.put (.var 0) (.int 2) (.bin .fdiv (.var 3) (.var 1))) (.cons (.ret (.bin .mod (.var 3) (.var 1))) .nil)) .nil) (.cons (.asg (.var 4) (.bin .mod (.bin .pow (.bin .add (.bin .add (.bin .mod (.var 3) (.int 2147483629)) (.bin .mul (.int 120011) (.sub (.var 0) (.int 3)))) (.int 71)) (.int 5)) (.int 2147483647))) (.cons (.ret (.bin .mod (.bin .fdiv (.bin .mod (.bin .pow (.bin .add (.var 4) (.bin .mul (.bin .mul (.int 61403) (.sub (.var 0) (.int 3))) (.sub (.var 0) (.int 3)))) (.int 5)) (.int 2147483587)) (.int 64)) (.var 1))) .nil)))))))
section
variable {cs : List D} {T : List FD} {W k : Nat} {ns : List Int} {s r c : Int} {rest : Sto}
theorem ffRun0 {m : Nat} {many : Int} (hm : 0 < many) (hm2 : many.natAbs.log2 < 9000) (hc : 0 ≤ c) (hc2 : c ≤ 1000000) :
    ∃ y s' r', outOf m (evSs cs (callF cs T W k) W bDrf [some (.r 0), some (.d (.int many)), none, none, none, none] (fdOb ns s r c :: rest)) = .ok (.d (.int y)) (fdOb ns s' r' (c + 1) :: rest) ∧ 0 ≤ y ∧ y < many := by
  unfold fdOb
  by_cases hr : 0 < r
  · refine ⟨r % many, s, r / many, ?_, Int.emod_nonneg _ (by omega), Int.emod_lt_of_pos _ hm⟩
    show outOf m (evSs cs (callF cs T W k) W bDrf [some (.r 0), some (.d (.int many)), none, none, none, none] _) = _
    simp only [bDrf, evSs, evS, evE, List.getElem?_cons_zero, List.getElem?_cons_succ, bnd_ok, asD, fd_rd, rd, lift, subL, at0, at1, at2, at3, addI, fd_p3, cGt, hr, decide_true, Option.map_some, tru, Option.bind_some, truD, sel_tt, modI _ _ hm, divI _ _ hm hm2, sG1, List.set_cons_zero, List.set_cons_succ, fd_p2, outOf]
  · obtain ⟨cell, hcell⟩ : ∃ cell : Int, (if ns.isEmpty then some (.int 7) else L2.atI (ns.map PyData.int) (s % ns.length)) = some (.int cell) := by
      by_cases hl : ns.isEmpty
      · rw [if_pos hl]; exact ⟨7, rfl⟩
      · rw [if_neg hl]
        have hl' : 0 < ns.length := by
          cases ns with
          | nil => simp at hl
          | cons a b => simp
        have p1 : 0 ≤ s % (ns.length : Int) := Int.emod_nonneg _ (by omega)
        have p2 : s % (ns.length : Int) < ns.length := Int.emod_lt_of_pos _ (by omega)
        obtain ⟨j, hj⟩ := Int.eq_ofNat_of_zero_le p1
        rw [hj] at p2 ⊢
        have p3 : j < ns.length := by omega
        refine ⟨ns[j], atI_nat ?_⟩
        rw [List.getElem?_map, List.getElem?_eq_getElem p3]
        rfl
    have t18 : (10 : Int) ^ (18 : Int).toNat = 10 ^ 18 := rfl
    have t5 : ∀ x : Int, x ^ (5 : Int).toNat = x ^ 5 := fun _ => rfl
    have q1 : 0 ≤ cell % 2147483629 := Int.emod_nonneg _ (by omega)
    have q2 : cell % 2147483629 < 2147483629 := Int.emod_lt_of_pos _ (by omega)
    have m1 : (120011 : Int).natAbs.log2 + (c + 1).natAbs.log2 < 1000000 := mul_small (by rw [pow64]; omega) (by rw [pow64]; omega)
    have m2 : (61403 : Int).natAbs.log2 + (c + 1).natAbs.log2 < 1000000 := mul_small (by rw [pow64]; omega) (by rw [pow64]; omega)
    have c1 : 61403 * (c + 1) ≤ 61403 * 1000001 := by omega
    have c0 : 0 ≤ 61403 * (c + 1) := by omega
    have m3 : (61403 * (c + 1)).natAbs.log2 + (c + 1).natAbs.log2 < 1000000 := mul_small (by rw [pow64]; omega) (by rw [pow64]; omega)
    have w1 : (cell % 2147483629 + 120011 * (c + 1) + 71).natAbs < 2 ^ 64 := by rw [pow64]; omega
    have o1 : 0 ≤ (cell % 2147483629 + 120011 * (c + 1) + 71) ^ 5 % 2147483647 := Int.emod_nonneg _ (by omega)
    have o2 : (cell % 2147483629 + 120011 * (c + 1) + 71) ^ 5 % 2147483647 < 2147483647 := Int.emod_lt_of_pos _ (by omega)
    have c2 : 61403 * (c + 1) * (c + 1) ≤ 61403 * 1000001 * 1000001 := Int.mul_le_mul c1 (by omega) (by omega) (by omega)
    have c3 : 0 ≤ 61403 * (c + 1) * (c + 1) := Int.mul_nonneg c0 (by omega)
    have w2 : ((cell % 2147483629 + 120011 * (c + 1) + 71) ^ 5 % 2147483647 + 61403 * (c + 1) * (c + 1)).natAbs < 2 ^ 64 := by rw [pow64]; omega
    have read : ∀ (e4 e5 : Option Vl) (rest : Sto), evE cs (callF cs T W k) (.ifx (.cmp .gt (.bi .len (.cons (.sub (.var 0) (.int 0)) .nil)) (.int 0)) (.sub (.sub (.var 0) (.int 0)) (.bin .mod (.var 2) (.bi .len (.cons (.sub (.var 0) (.int 0)) .nil)))) (.int 7)) [some (.r 0), some (.d (.int many)), some (.d (.int s)), none, e4, e5] (.lst [.list (ns.map .int), .int (s + 1), .int r, .int (c + 1)] :: rest) = .ok (.d (.int cell)) (.lst [.list (ns.map .int), .int (s + 1), .int r, .int (c + 1)] :: rest) := by
      intro e4 e5 rest
      simp only [evE, evEs, List.getElem?_cons_zero, List.getElem?_cons_succ, bnd_ok, asD, fd_rd, rd, lift, subL, at0, at1, asDs, biD, List.length_map, cGt, Option.map_some, tru, Option.bind_some, truD]
      by_cases hl : ns.isEmpty
      · rw [if_pos hl] at hcell
        cases hcell
        have hz : ns.length = 0 := by simpa using hl
        simp only [hz, Int.cast_ofNat_Int, Int.lt_irrefl, decide_false, sel_ff]
      · rw [if_neg hl] at hcell
        have hl' : (0 : Int) < ns.length := by
          cases ns with
          | nil => simp at hl
          | cons a b => simp
        simp only [hl', decide_true, sel_tt, modI _ _ hl', bnd_ok, rd, subL, hcell]
    have step : evSs cs (callF cs T W k) W bDrf [some (.r 0), some (.d (.int many)), none, none, none, none] (.lst [.list (ns.map .int), .int s, .int r, .int c] :: rest) = evSs cs (callF cs T W k) W (.cons (.ifs (.and (.cmp .ge (.var 3) (.bin .pow (.int 10) (.int 18))) (.cmp .lt (.var 2) (.bi .len (.cons (.sub (.var 0) (.int 0)) .nil)))) (.cons (.put (.var 0) (.int 2) (.bin .fdiv (.var 3) (.var 1))) (.cons (.ret (.bin .mod (.var 3) (.var 1))) .nil)) .nil) (.cons (.asg (.var 4) (.bin .mod (.bin .pow (.bin .add (.bin .add (.bin .mod (.var 3) (.int 2147483629)) (.bin .mul (.int 120011) (.sub (.var 0) (.int 3)))) (.int 71)) (.int 5)) (.int 2147483647))) (.cons (.ret (.bin .mod (.bin .fdiv (.bin .mod (.bin .pow (.bin .add (.var 4) (.bin .mul (.bin .mul (.int 61403) (.sub (.var 0) (.int 3))) (.sub (.var 0) (.int 3)))) (.int 5)) (.int 2147483587)) (.int 64)) (.var 1))) .nil))) [some (.r 0), some (.d (.int many)), some (.d (.int s)), some (.d (.int cell)), none, none] (.lst [.list (ns.map .int), .int (s + 1), .int r, .int (c + 1)] :: rest) := by
      unfold bDrf
      rw [ss_nx (env' := [some (.r 0), some (.d (.int many)), none, none, none, none]) (st' := .lst [.list (ns.map .int), .int s, .int r, .int (c + 1)] :: rest) (by
        simp only [evS, evE, List.getElem?_cons_zero, bnd_ok, asD, fd_rd, rd, lift, subL, at3, addI, fd_p3])]
      rw [ss_nx (env' := [some (.r 0), some (.d (.int many)), none, none, none, none]) (st' := .lst [.list (ns.map .int), .int s, .int r, .int (c + 1)] :: rest) (by
        simp only [evS, evSs, evE, List.getElem?_cons_zero, bnd_ok, asD, fd_rd, rd, lift, subL, at2, cGt, hr, decide_false, Option.map_some, tru, Option.bind_some, truD, sel_ff])]
      rw [ss_nx (env' := [some (.r 0), some (.d (.int many)), some (.d (.int s)), none, none, none]) (st' := .lst [.list (ns.map .int), .int s, .int r, .int (c + 1)] :: rest) (by
        simp only [evS, evE, List.getElem?_cons_zero, bnd_ok, asD, fd_rd, rd, lift, subL, at1, sG1, List.set_cons_zero, List.set_cons_succ])]
      rw [ss_nx (env' := [some (.r 0), some (.d (.int many)), some (.d (.int s)), none, none, none]) (st' := .lst [.list (ns.map .int), .int (s + 1), .int r, .int (c + 1)] :: rest) (by
        simp only [evS, evE, List.getElem?_cons_zero, List.getElem?_cons_succ, bnd_ok, asD, fd_rd, rd, lift, subL, at1, addI, fd_p1])]
      rw [ss_nx (env' := [some (.r 0), some (.d (.int many)), some (.d (.int s)), some (.d (.int cell)), none, none]) (st' := .lst [.list (ns.map .int), .int (s + 1), .int r, .int (c + 1)] :: rest) (by
        rw [evS, read]; simp only [bnd_ok, sG1, List.set_cons_zero, List.set_cons_succ])]
    by_cases hb : (10 : Int) ^ 18 ≤ cell ∧ s < (ns.length : Int)
    · refine ⟨cell % many, s + 1, cell / many, ?_, Int.emod_nonneg _ (by omega), Int.emod_lt_of_pos _ hm⟩
      show outOf m (evSs cs (callF cs T W k) W bDrf [some (.r 0), some (.d (.int many)), none, none, none, none] _) = _
      rw [step]
      simp only [evS, evSs, evE, evEs, List.getElem?_cons_zero, List.getElem?_cons_succ, bnd_ok, asD, asDs, fd_rd, rd, lift, subL, at0, at1, powI 10 18 (by decide) (by decide) (by decide), t18, cGe, cLt, hb.1, hb.2, biD, List.length_map, decide_true, Option.map_some, tru, Option.bind_some, truD, sel_tt, divI _ _ hm hm2, modI _ _ hm, fd_p2, outOf]
    · refine ⟨((cell % 2147483629 + 120011 * (c + 1) + 71) ^ 5 % 2147483647 + 61403 * (c + 1) * (c + 1)) ^ 5 % 2147483587 / 64 % many, s + 1, r, ?_, Int.emod_nonneg _ (by omega), Int.emod_lt_of_pos _ hm⟩
      show outOf m (evSs cs (callF cs T W k) W bDrf [some (.r 0), some (.d (.int many)), none, none, none, none] _) = _
      rw [step]
      rw [ss_nx (env' := [some (.r 0), some (.d (.int many)), some (.d (.int s)), some (.d (.int cell)), none, none]) (st' := .lst [.list (ns.map .int), .int (s + 1), .int r, .int (c + 1)] :: rest) (by
        simp only [evS, evSs, evE, evEs, List.getElem?_cons_zero, List.getElem?_cons_succ, bnd_ok, asD, asDs, fd_rd, rd, lift, subL, at0, at1, powI 10 18 (by decide) (by decide) (by decide), t18, cGe, cLt, biD, List.length_map, Option.map_some, tru, Option.bind_some, truD]
        by_cases h1 : (10 : Int) ^ 18 ≤ cell
        · have h2 : ¬ s < (ns.length : Int) := fun z => hb ⟨h1, z⟩
          simp only [h1, h2, decide_true, decide_false, sel_tt, sel_ff, bnd_ok, Option.bind_some, truD]
        · simp only [h1, decide_false, sel_ff, bnd_ok, Option.bind_some, truD])]
      simp only [evS, evSs, evE, evEs, List.getElem?_cons_zero, List.getElem?_cons_succ, bnd_ok, asD, asDs, fd_rd, rd, lift, subL, at3, modI _ 2147483629 (by decide), mulI _ _ m1, mulI _ _ m2, mulI _ _ m3, addI, powI _ 5 (by decide) (by decide) w1, t5, modI _ 2147483647 (by decide), sG1, List.set_cons_zero, List.set_cons_succ, powI _ 5 (by decide) (by decide) w2, modI _ 2147483587 (by decide), divI _ 64 (by decide) (by decide), modI _ _ hm, outOf]
theorem ffRun {i : Nat} {nm x0 x1 x2 x3 x4 x5 : Str} (h : T[i]? = some ⟨nm, 2, [x0, x1, x2, x3, x4, x5], bDrf, false, false⟩) {many : Int} (hm : 0 < many) (hm2 : many.natAbs.log2 < 9000) (hc : 0 ≤ c) (hc2 : c ≤ 1000000) :
    ∃ y s' r', callF cs T W (k + 1) i [.r 0, .d (.int many)] (fdOb ns s r c :: rest) = .ok (.d (.int y)) (fdOb ns s' r' (c + 1) :: rest) ∧ 0 ≤ y ∧ y < many := by
  obtain ⟨y, s', r', e, h0, h1⟩ := ffRun0 (m := 1) (cs := cs) (T := T) (W := W) (k := k) (ns := ns) (s := s) (r := r) (c := c) (rest := []) hm hm2 hc hc2
  exact ⟨y, s', r', callI (s := [fdOb ns s' r' (c + 1)]) h rfl (by simp [refsA]) (os := [fdOb ns s r c]) rfl e, h0, h1⟩
theorem drawF {i n : Nat} {nm x0 x1 x2 x3 x4 x5 : Str} (h : T[i]? = some ⟨nm, 2, [x0, x1, x2, x3, x4, x5], bDrf, false, false⟩) {many : Int} {o : Ob} {rest : Sto} {Q : Vl → Sto → Prop} (F : Fd (n + 1) o) (hm : 0 < many) (hm2 : many < 2 ^ 200)
    (hQ : ∀ y o', 0 ≤ y → y < many → Fd n o' → Q (.d (.int y)) (o' :: rest)) : Ok (callF cs T W (k + 1) i [.r 0, .d (.int many)] (o :: rest)) Q := by
  obtain ⟨ns, s, r, c, rfl, h0, h1⟩ := F
  have hm3 : many.natAbs.log2 < 9000 := by
    have := Fr.log2_lt (n := many.natAbs) (m := 200) (by omega) (by decide)
    omega
  obtain ⟨y, s', r', e, a, b⟩ := ffRun (cs := cs) (W := W) (k := k) (ns := ns) (s := s) (r := r) (c := c) (rest := rest) h hm hm3 h0 (by omega)
  rw [e, ok_ok]
  exact hQ y _ a b ⟨ns, s', r', c + 1, rfl, by omega, by omega⟩
end
end Ev
end
section
set_option maxRecDepth 10000
/-! films: what the program's and the laws' first functions tell -/
namespace Ev
open PySem L2
structure Ct where
  s : Str
  f : Int
  m : Int
  t : Int
def ctD (c : Ct) : D := .tuple [.str c.s, .int c.f, .int c.m, .int c.t]
abbrev Fm := List (Ct × Int)
def pcD (p : Ct × Int) : D := .tuple [ctD p.1, .int p.2]
def filmD (F : Fm) : D := .tuple (F.map pcD)
def begins : Int → Fm → List Int
  | _, [] => []
  | b, p :: r => b :: begins (b + (p.1.m - p.2)) r
def total (F : Fm) : Int := (F.map fun p => p.1.m - p.2).sum
theorem total_cons (p : Ct × Int) (F : Fm) : total (p :: F) = p.1.m - p.2 + total F := by simp [total]
theorem begins_len : ∀ (b : Int) (F : Fm), (begins b F).length = F.length
  | _, [] => rfl
  | b, p :: r => by simp [begins, begins_len]
theorem total_snoc (F : Fm) (p : Ct × Int) : total (F ++ [p]) = total F + (p.1.m - p.2) := by simp [total]
theorem begins_snoc : ∀ (b : Int) (F : Fm) (p : Ct × Int), begins b (F ++ [p]) = begins b F ++ [b + total F]
  | b, [], p => by simp [begins, total]
  | b, q :: r, p => by
    rw [List.cons_append, begins, begins_snoc _ r p, begins, total_cons, List.cons_append]
    congr 3
    omega
theorem sl1000 : (1000 : Nat) ≤ sizeLine := by decide
theorem sy1000 : (1000 : Nat) < sizeLine := by decide
def bBeg_l0 : Ss := .cons (.expr (.mth .append (.var 1) (.cons (.var 2) .nil))) (.cons (.aug 2 .add (.bin .sub (.var 6) (.var 3))) .nil)
def bBeg : Ss := .cons (.par [1, 2] (.cons (.lstS .nil) (.cons (.int 0) .nil))) (.cons (.forr (.tup (.cons (.tup (.cons (.var 4) (.cons (.var 5) (.cons (.var 6) (.cons (.var 7) .nil))))) (.cons (.var 3) .nil))) (.val (.var 0)) bBeg_l0) (.cons (.ret (.bi .tuple (.cons (.var 1) .nil))) .nil))
def bLen_c0 : E := .lc (.bin .sub (.sub (.var 1) (.int 2)) (.var 2)) (.tup (.cons (.var 1) (.cons (.var 2) .nil))) (.val (.var 0)) (.bl true) [1, 2] false
def bLen : Ss := .cons (.ret (.bi .sum (.cons bLen_c0 .nil))) .nil
def bFrm : Ss := .cons (.asg (.tup (.cons (.var 2) (.cons (.var 3) (.cons (.var 4) (.cons (.var 5) .nil))))) (.var 0)) (.cons (.ret (.bin .add (.var 3) (.bin .mul (.var 1) (.var 5)))) .nil)
def bCut_l0 : Ss := .cons (.ifs (.cmp2 .le .lt (.int 0) (.bin .sub (.var 1) (.var 4)) (.sub (.var 5) (.int 2))) (.cons (.expr (.mth .append (.var 2) (.cons (.tup (.cons (.var 3) (.cons (.bin .sub (.var 1) (.var 4)) .nil))) .nil))) .nil) .nil) .nil
def bCut (beg : Nat) : Ss := .cons (.asg (.var 2) (.lstS .nil)) (.cons (.forr (.tup (.cons (.var 3) (.cons (.tup (.cons (.var 4) (.cons (.tup (.cons (.var 5) (.cons (.var 6) .nil))) .nil))) .nil))) (.ezip (.call beg (.cons (.var 0) .nil)) (.var 0) true) bCut_l0) (.cons (.ret (.var 2)) .nil))
def bShr (low : Nat) : Ss := .cons (.ifs (.cmp .eq (.bi .len (.cons (.var 1) .nil)) (.int 1)) (.cons (.ret (.lst (.cons (.tup (.cons (.int 1) (.cons (.int 1) .nil))) .nil))) .nil) .nil) (.cons (.asg (.tup (.cons (.tup (.cons (.var 3) (.cons (.var 4) .nil))) (.cons (.tup (.cons (.var 5) (.cons (.var 6) .nil))) .nil))) (.var 1)) (.cons (.asg (.var 2) (.sub (.sub (.var 0) (.var 3)) (.int 1))) (.cons (.ret (.lst (.cons (.call low (.cons (.bin .sub (.var 2) (.var 6)) (.cons (.bin .add (.var 2) (.int 1)) .nil))) (.cons (.call low (.cons (.bin .add (.var 6) (.int 1)) (.cons (.bin .add (.var 2) (.int 1)) .nil))) .nil)))) .nil)))
def bSrc_l0 (frm : Nat) : Ss := .cons (.expr (.mth .append (.var 3) (.cons (.tup (.cons (.var 5) (.cons (.var 6) (.cons (.call frm (.cons (.sub (.sub (.var 0) (.var 5)) (.int 0)) (.cons (.var 6) .nil))) (.cons (.var 4) .nil))))) .nil))) .nil
def bSrc (len : Nat) (cut : Nat) (shr : Nat) (frm : Nat) : Ss := .cons (.ifs (.or (.cmp .lt (.var 1) (.int 0)) (.cmp .ge (.var 1) (.call len (.cons (.var 0) .nil)))) (.cons (.rais "NoNumber" ["number"] (.cons (.var 1) .nil)) .nil) .nil) (.cons (.asg (.var 2) (.call cut (.cons (.var 0) (.cons (.var 1) .nil)))) (.cons (.asg (.var 3) (.lstS .nil)) (.cons (.forr (.tup (.cons (.tup (.cons (.var 5) (.cons (.var 6) .nil))) (.cons (.var 4) .nil))) (.zip (.var 2) (.call shr (.cons (.var 0) (.cons (.var 2) .nil))) true) (bSrc_l0 frm)) (.cons (.ret (.bi .tuple (.cons (.var 3) .nil))) .nil))))
def bFrc : Ss := .cons (.par [2, 3] (.cons (.bi .abs (.cons (.var 0) .nil)) (.cons (.bi .abs (.cons (.var 1) .nil)) .nil))) (.cons (.whl (.cmp .gt (.var 3) (.int 0)) (.cons (.par [2, 3] (.cons (.var 3) (.cons (.bin .mod (.var 2) (.var 3)) .nil))) .nil)) (.cons (.ifs (.cmp .lt (.var 1) (.int 0)) (.cons (.asg (.var 2) (.bin .sub (.int 0) (.var 2))) .nil) .nil) (.cons (.ret (.tup (.cons (.bin .fdiv (.var 0) (.var 2)) (.cons (.bin .fdiv (.var 1) (.var 2)) .nil)))) .nil)))
def bSlc (drw : Nat) : Ss := .cons (.asg (.var 2) (.sub (.lst (.cons (.int 1) (.cons (.int 2) (.cons (.int 3) (.cons (.int 4) (.cons (.int 5) (.cons (.int 6) (.cons (.int 9) .nil)))))))) (.call drw (.cons (.var 0) (.cons (.int 7) .nil))))) (.cons (.par [3, 4] (.cons (.call drw (.cons (.var 0) (.cons (.int 9) .nil))) (.cons (.call drw (.cons (.var 0) (.cons (.int 3) .nil))) .nil))) (.cons (.ifs (.cmp .eq (.var 4) (.int 0)) (.cons (.ret (.tup (.cons (.sub (.var 1) (.call drw (.cons (.var 0) (.cons (.bi .len (.cons (.var 1) .nil)) .nil)))) (.cons (.bin .sub (.bin .add (.var 3) (.var 2)) (.int 1)) (.cons (.var 2) (.cons (.neg (.int 1)) .nil)))))) .nil) .nil) (.cons (.ret (.tup (.cons (.sub (.var 1) (.call drw (.cons (.var 0) (.cons (.bi .len (.cons (.var 1) .nil)) .nil)))) (.cons (.var 3) (.cons (.var 2) (.cons (.int 1) .nil)))))) .nil)))
def bRel_c0 (drw : Nat) (slc : Nat) : E := .lc (.call slc (.cons (.var 0) (.cons (.var 2) .nil))) (.var 4) (.rng1 (.call drw (.cons (.var 0) (.cons (.bin .add (.var 1) (.int 1)) .nil)))) (.bl true) [4] false
def bRel_l1 (drw : Nat) : Ss := .cons (.asg (.var 7) (.int 0)) (.cons (.ifs (.cmp .lt (.bin .add (.var 4) (.int 1)) (.bi .len (.cons (.var 3) .nil))) (.cons (.asg (.var 8) (.bi .min (.cons (.bin .sub (.sub (.sub (.var 3) (.var 4)) (.int 2)) (.var 6)) (.cons (.sub (.sub (.var 3) (.bin .add (.var 4) (.int 1))) (.int 2)) .nil)))) (.cons (.asg (.var 7) (.sub (.lst (.cons (.int 0) (.cons (.var 8) (.cons (.call drw (.cons (.var 0) (.cons (.bin .add (.var 8) (.int 1)) .nil))) .nil)))) (.call drw (.cons (.var 0) (.cons (.int 3) .nil))))) .nil)) .nil) (.cons (.expr (.mth .append (.var 5) (.cons (.tup (.cons (.sub (.var 3) (.var 4)) (.cons (.var 7) .nil))) .nil))) (.cons (.asg (.var 6) (.var 7)) .nil)))
def bRel (drw : Nat) (slc : Nat) : Ss := .cons (.asg (.var 3) (bRel_c0 drw slc)) (.cons (.par [5, 6] (.cons (.lstS .nil) (.cons (.int 0) .nil))) (.cons (.forr (.var 4) (.rng1 (.bi .len (.cons (.var 3) .nil))) (bRel_l1 drw)) (.cons (.ret (.bi .tuple (.cons (.var 5) .nil))) .nil)))
def bSta_l0 : Ss := .cons (.expr (.mth .append (.var 1) (.cons (.var 2) .nil))) (.cons (.asg (.var 2) (.bin .sub (.bin .add (.var 2) (.sub (.var 3) (.int 2))) (.var 4))) .nil)
def bSta : Ss := .cons (.par [1, 2] (.cons (.lstS .nil) (.cons (.int 0) .nil))) (.cons (.forr (.tup (.cons (.var 3) (.cons (.var 4) .nil))) (.val (.var 0)) bSta_l0) (.cons (.rett (.cons (.var 1) (.cons (.var 2) .nil))) .nil))
def bLsr_l0 : Ss := .cons (.par [8, 9] (.cons (.sub (.sub (.var 0) (.var 2)) (.int 0)) (.cons (.bin .sub (.var 1) (.sub (.var 4) (.var 2))) .nil))) (.cons (.ifs (.cmp2 .le .lt (.int 0) (.var 9) (.sub (.var 8) (.int 2))) (.cons (.expr (.mth .append (.var 5) (.cons (.tup (.cons (.var 2) (.cons (.var 9) (.cons (.bin .add (.sub (.var 8) (.int 1)) (.bin .mul (.var 9) (.sub (.var 8) (.int 3)))) (.cons (.tup (.cons (.int 1) (.cons (.int 1) .nil))) .nil))))) .nil))) .nil) .nil) .nil)
def bLsr_c1 : E := .lc (.bin .add (.slc (.sub (.var 5) (.var 2)) .nil (.int 3)) (.tup (.cons (.sub (.var 3) (.var 2)) .nil))) (.var 2) (.rng1 (.int 2)) (.bl true) [2] false
def bLsr (sta : Nat) (frc : Nat) : Ss := .cons (.par [4, 5] (.cons (.sub (.call sta (.cons (.var 0) .nil)) (.int 0)) (.cons (.lstS .nil) .nil))) (.cons (.forr (.var 2) (.rng1 (.bi .len (.cons (.var 0) .nil))) bLsr_l0) (.cons (.ifs (.cmp .lt (.bi .len (.cons (.var 5) .nil)) (.int 2)) (.cons (.ret (.bi .tuple (.cons (.var 5) .nil))) .nil) .nil) (.cons (.par [6, 7] (.cons (.sub (.sub (.var 0) (.sub (.sub (.var 5) (.int 0)) (.int 0))) (.int 1)) (.cons (.sub (.sub (.var 5) (.int 1)) (.int 1)) .nil))) (.cons (.asg (.var 3) (.lst (.cons (.call frc (.cons (.bin .sub (.var 6) (.var 7)) (.cons (.bin .add (.var 6) (.int 1)) .nil))) (.cons (.call frc (.cons (.bin .add (.var 7) (.int 1)) (.cons (.bin .add (.var 6) (.int 1)) .nil))) .nil)))) (.cons (.ret (.bi .tuple (.cons bLsr_c1 .nil))) .nil)))))
section
variable {cs : List D} {T : List FD} {W k : Nat}
abbrev gBeg : G := .tup (.cons (.tup (.cons (.var 4) (.cons (.var 5) (.cons (.var 6) (.cons (.var 7) .nil))))) (.cons (.var 3) .nil))
theorem begRun {i : Nat} {nm x0 x1 x2 x3 x4 x5 x6 x7 : Str} (h : T[i]? = some ⟨nm, 1, [x0, x1, x2, x3, x4, x5, x6, x7], bBeg, true, false⟩) {F : Fm} (hF : F.length ≤ 1000) {st : Sto} :
    callF cs T W (k + 1) i [.d (filmD F)] st = .ok (.d (.tuple ((begins 0 F).map .int))) st := by
  refine Ok.eq (okP h rfl rfl ?_)
  show Ok (outOf 0 (evSs cs (callF cs T W k) W bBeg [some (.d (filmD F)), none, none, none, none, none, none, none] [])) _
  unfold bBeg
  simp only [Ss_cons, Ss_nil, then_nx, then_ret, then_bk, then_ct, then_rtt, S_aug, aug_g, aug_add, aug_sub, S_rett, S_rais, S_tryx, E_isx, E_fld, I_enu, I_ezip, kEzip, I_chr, chr_at, E_callk, kCk1_at, calm_k, ok_calm, outK_rtt, S_expr, kNx, S_asg, S_par, S_put, kPut1_at, kPut2_at, S_dput, kDput1_at, kDput2_at, S_ifs, kIfs, selS_tt, selS_ff, S_for, kFor_at, S_ret, kRet, S_pass, S_brk, S_cnt, setTo, parTo, putTo, E_var, get_v, E_int, E_bl, E_non, E_str, E_cst, E_bin, kBin, bin2, bin3_at, bin4, E_neg, neg_v, E_nt, ntV, notB_t, notB_f, E_cmp, kCmp, cmp2, cmp3_at, cmp4, E_cmp2, kChain, chainC, chain3, chain4, selC_tt, selC_ff, E_and, kAnd, selA_tt, selA_ff, E_or, kOr, selO_tt, selO_ff, E_ifx, kIfx, selE_tt, selE_ff, E_tup, mkT, E_lst, mkL, E_lstS, mkS, E_sub, kSub, sub2, sub3_at, sub4, E_slc, kSlc1, kSlc2, slc2, slc3, ptOf_at, ptK_t, ptK_f, isNilE, E_rev, revV, rev3_t, rev3_l, E_nil, E_own, ownV, E_call, kCall_at, E_bi, kBi, bi3, E_isin, kIsin, isin3, E_lc, kLc_at, lcEnd_t, lcEnd_f, E_mth, kMth_at, selM_t, Es_nil, Es_cons, kEs, kEs2, I_val, I_1, I_2, kI2, I_3, kI3, kI3b, I_zip, kZip, E_lzip, kLz, kTurn, selT_tt, selT_ff, srcL, srcT, forS_fix, lcS_fix, bnd_k, ok_ok, ok_bnd, okK_at, out_at, outK_ret, outK_nx, backK_d, asD, rd, asDs, lift_some, tru, truD, intV, isTy, sG1, sG2, sG3, sG4, setPar, Option.bind_some, Option.map_some, List.set_cons_zero, List.set_cons_succ, List.getElem?_cons_zero, List.getElem?_cons_succ, dAll, List.length_cons, List.length_nil, Nat.zero_add, Nat.reduceAdd, Nat.reduceLeDiff, Nat.reduceLT, Nat.reduceMul, sz0, sz1, sz2, sz3, sz4, sz5, sy0, sy1, sy2, sy3, sy4, if_true, List.nil_append, List.cons_append, isLst, mthD, addI, subI, subL, subT, at0, at1, at2, at3, cLt, cLe, cGt, cGe, cEqI, cNeI, cEqS, cNeS, decide_true, decide_false, Int.reduceLT, Int.reduceLE, Int.reduceSub, Int.reduceAdd, Int.reduceNeg, Int.reduceToNat, Int.cast_ofNat_Int, Bool.not_true, Bool.not_false, keepD, wipeE, biLenL, biLenT, biAbs, biRepr, biMin, biMax, biTupL, biTupT, biLstL, biLstT, biIntI, biIntB, biAll, biAny, biSum, wback, and_true, true_and, beq_self_eq_true, Int.reduceBEq, filmD]
  refine okFor (fun left env st => ∃ p l v3 v4 v5 v6 v7, F = p ++ l ∧ left = l.map pcD ∧ env = [some (.d (.tuple (F.map pcD))), some (.r 0), some (.d (.int (total p))), v3, v4, v5, v6, v7] ∧ st = [.lst ((begins 0 p).map .int)]) ⟨[], F, _, _, _, _, _, rfl, rfl, rfl, rfl⟩ (fun x r env st ⟨p, l, v3, v4, v5, v6, v7, h1, h2, h3, h4⟩ => ?_) fun env st ⟨p, l, v3, v4, v5, v6, v7, h1, h2, h3, h4⟩ => ?_
  · subst h3 h4
    cases l with
    | nil => cases h2
    | cons q l =>
      cases h2
      have hp : p.length + l.length + 1 ≤ 1000 := by
        have := congrArg List.length h1
        simp at this; omega
      have hz : ((begins 0 p).map PyData.int).length < sizeLine := by
        have := sl1000
        rw [List.length_map, begins_len]; omega
      rw [turn_for (env' := [some (.d (.tuple (F.map pcD))), some (.r 0), some (.d (.int (total p))), some (.d (.int q.2)), some (.d (.str q.1.s)), some (.d (.int q.1.f)), some (.d (.int q.1.m)), some (.d (.int q.1.t))]) rfl]
      unfold bBeg_l0
      simp only [Ss_cons, Ss_nil, then_nx, then_ret, then_bk, then_ct, then_rtt, S_aug, aug_g, aug_add, aug_sub, S_rett, S_rais, S_tryx, E_isx, E_fld, I_enu, I_ezip, kEzip, I_chr, chr_at, E_callk, kCk1_at, calm_k, ok_calm, outK_rtt, S_expr, kNx, S_asg, S_par, S_put, kPut1_at, kPut2_at, S_dput, kDput1_at, kDput2_at, S_ifs, kIfs, selS_tt, selS_ff, S_for, kFor_at, S_ret, kRet, S_pass, S_brk, S_cnt, setTo, parTo, putTo, E_var, get_v, E_int, E_bl, E_non, E_str, E_cst, E_bin, kBin, bin2, bin3_at, bin4, E_neg, neg_v, E_nt, ntV, notB_t, notB_f, E_cmp, kCmp, cmp2, cmp3_at, cmp4, E_cmp2, kChain, chainC, chain3, chain4, selC_tt, selC_ff, E_and, kAnd, selA_tt, selA_ff, E_or, kOr, selO_tt, selO_ff, E_ifx, kIfx, selE_tt, selE_ff, E_tup, mkT, E_lst, mkL, E_lstS, mkS, E_sub, kSub, sub2, sub3_at, sub4, E_slc, kSlc1, kSlc2, slc2, slc3, ptOf_at, ptK_t, ptK_f, isNilE, E_rev, revV, rev3_t, rev3_l, E_nil, E_own, ownV, E_call, kCall_at, E_bi, kBi, bi3, E_isin, kIsin, isin3, E_lc, kLc_at, lcEnd_t, lcEnd_f, E_mth, kMth_at, selM_t, Es_nil, Es_cons, kEs, kEs2, I_val, I_1, I_2, kI2, I_3, kI3, kI3b, I_zip, kZip, E_lzip, kLz, kTurn, selT_tt, selT_ff, srcL, srcT, forS_fix, lcS_fix, bnd_k, ok_ok, ok_bnd, okK_at, out_at, outK_ret, outK_nx, backK_d, asD, rd, asDs, lift_some, tru, truD, intV, isTy, sG1, sG2, sG3, sG4, setPar, Option.bind_some, Option.map_some, List.set_cons_zero, List.set_cons_succ, List.getElem?_cons_zero, List.getElem?_cons_succ, dAll, List.length_cons, List.length_nil, Nat.zero_add, Nat.reduceAdd, Nat.reduceLeDiff, Nat.reduceLT, Nat.reduceMul, sz0, sz1, sz2, sz3, sz4, sz5, sy0, sy1, sy2, sy3, sy4, if_true, List.nil_append, List.cons_append, isLst, mthD, addI, subI, subL, subT, at0, at1, at2, at3, cLt, cLe, cGt, cGe, cEqI, cNeI, cEqS, cNeS, decide_true, decide_false, Int.reduceLT, Int.reduceLE, Int.reduceSub, Int.reduceAdd, Int.reduceNeg, Int.reduceToNat, Int.cast_ofNat_Int, Bool.not_true, Bool.not_false, keepD, wipeE, biLenL, biLenT, biAbs, biRepr, biMin, biMax, biTupL, biTupT, biLstL, biLstT, biIntI, biIntB, biAll, biAny, biSum, wback, and_true, true_and, beq_self_eq_true, Int.reduceBEq, hz]
      refine ⟨p ++ [q], l, _, _, _, _, _, by rw [h1]; simp, rfl, by rw [total_snoc], ?_⟩
      rw [begins_snoc, List.map_append]
      simp
  · cases l with
    | cons q l => cases h2
    | nil =>
      subst h3 h4
      rw [List.append_nil] at h1
      subst h1
      simp only [Ss_cons, Ss_nil, then_nx, then_ret, then_bk, then_ct, then_rtt, S_aug, aug_g, aug_add, aug_sub, S_rett, S_rais, S_tryx, E_isx, E_fld, I_enu, I_ezip, kEzip, I_chr, chr_at, E_callk, kCk1_at, calm_k, ok_calm, outK_rtt, S_expr, kNx, S_asg, S_par, S_put, kPut1_at, kPut2_at, S_dput, kDput1_at, kDput2_at, S_ifs, kIfs, selS_tt, selS_ff, S_for, kFor_at, S_ret, kRet, S_pass, S_brk, S_cnt, setTo, parTo, putTo, E_var, get_v, E_int, E_bl, E_non, E_str, E_cst, E_bin, kBin, bin2, bin3_at, bin4, E_neg, neg_v, E_nt, ntV, notB_t, notB_f, E_cmp, kCmp, cmp2, cmp3_at, cmp4, E_cmp2, kChain, chainC, chain3, chain4, selC_tt, selC_ff, E_and, kAnd, selA_tt, selA_ff, E_or, kOr, selO_tt, selO_ff, E_ifx, kIfx, selE_tt, selE_ff, E_tup, mkT, E_lst, mkL, E_lstS, mkS, E_sub, kSub, sub2, sub3_at, sub4, E_slc, kSlc1, kSlc2, slc2, slc3, ptOf_at, ptK_t, ptK_f, isNilE, E_rev, revV, rev3_t, rev3_l, E_nil, E_own, ownV, E_call, kCall_at, E_bi, kBi, bi3, E_isin, kIsin, isin3, E_lc, kLc_at, lcEnd_t, lcEnd_f, E_mth, kMth_at, selM_t, Es_nil, Es_cons, kEs, kEs2, I_val, I_1, I_2, kI2, I_3, kI3, kI3b, I_zip, kZip, E_lzip, kLz, kTurn, selT_tt, selT_ff, srcL, srcT, forS_fix, lcS_fix, bnd_k, ok_ok, ok_bnd, okK_at, out_at, outK_ret, outK_nx, backK_d, asD, rd, asDs, lift_some, tru, truD, intV, isTy, sG1, sG2, sG3, sG4, setPar, Option.bind_some, Option.map_some, List.set_cons_zero, List.set_cons_succ, List.getElem?_cons_zero, List.getElem?_cons_succ, dAll, List.length_cons, List.length_nil, Nat.zero_add, Nat.reduceAdd, Nat.reduceLeDiff, Nat.reduceLT, Nat.reduceMul, sz0, sz1, sz2, sz3, sz4, sz5, sy0, sy1, sy2, sy3, sy4, if_true, List.nil_append, List.cons_append, isLst, mthD, addI, subI, subL, subT, at0, at1, at2, at3, cLt, cLe, cGt, cGe, cEqI, cNeI, cEqS, cNeS, decide_true, decide_false, Int.reduceLT, Int.reduceLE, Int.reduceSub, Int.reduceAdd, Int.reduceNeg, Int.reduceToNat, Int.cast_ofNat_Int, Bool.not_true, Bool.not_false, keepD, wipeE, biLenL, biLenT, biAbs, biRepr, biMin, biMax, biTupL, biTupT, biLstL, biLstT, biIntI, biIntB, biAll, biAny, biSum, wback, and_true, true_and, beq_self_eq_true, Int.reduceBEq]
      first | done | rfl | exact ⟨rfl, rfl⟩
theorem staRun {i : Nat} {nm x0 x1 x2 x3 x4 : Str} (h : T[i]? = some ⟨nm, 1, [x0, x1, x2, x3, x4], bSta, true, false⟩) {F : Fm} (hF : F.length ≤ 1000) {st : Sto} :
    callF cs T W (k + 1) i [.d (filmD F)] st = .ok (.d (.tuple [.list ((begins 0 F).map .int), .int (total F)])) st := by
  refine Ok.eq (okP h rfl rfl ?_)
  show Ok (outOf 0 (evSs cs (callF cs T W k) W bSta [some (.d (filmD F)), none, none, none, none] [])) _
  unfold bSta
  simp only [Ss_cons, Ss_nil, then_nx, then_ret, then_bk, then_ct, then_rtt, S_aug, aug_g, aug_add, aug_sub, S_rett, S_rais, S_tryx, E_isx, E_fld, I_enu, I_ezip, kEzip, I_chr, chr_at, E_callk, kCk1_at, calm_k, ok_calm, outK_rtt, S_expr, kNx, S_asg, S_par, S_put, kPut1_at, kPut2_at, S_dput, kDput1_at, kDput2_at, S_ifs, kIfs, selS_tt, selS_ff, S_for, kFor_at, S_ret, kRet, S_pass, S_brk, S_cnt, setTo, parTo, putTo, E_var, get_v, E_int, E_bl, E_non, E_str, E_cst, E_bin, kBin, bin2, bin3_at, bin4, E_neg, neg_v, E_nt, ntV, notB_t, notB_f, E_cmp, kCmp, cmp2, cmp3_at, cmp4, E_cmp2, kChain, chainC, chain3, chain4, selC_tt, selC_ff, E_and, kAnd, selA_tt, selA_ff, E_or, kOr, selO_tt, selO_ff, E_ifx, kIfx, selE_tt, selE_ff, E_tup, mkT, E_lst, mkL, E_lstS, mkS, E_sub, kSub, sub2, sub3_at, sub4, E_slc, kSlc1, kSlc2, slc2, slc3, ptOf_at, ptK_t, ptK_f, isNilE, E_rev, revV, rev3_t, rev3_l, E_nil, E_own, ownV, E_call, kCall_at, E_bi, kBi, bi3, E_isin, kIsin, isin3, E_lc, kLc_at, lcEnd_t, lcEnd_f, E_mth, kMth_at, selM_t, Es_nil, Es_cons, kEs, kEs2, I_val, I_1, I_2, kI2, I_3, kI3, kI3b, I_zip, kZip, E_lzip, kLz, kTurn, selT_tt, selT_ff, srcL, srcT, forS_fix, lcS_fix, bnd_k, ok_ok, ok_bnd, okK_at, out_at, outK_ret, outK_nx, backK_d, asD, rd, asDs, lift_some, tru, truD, intV, isTy, sG1, sG2, sG3, sG4, setPar, Option.bind_some, Option.map_some, List.set_cons_zero, List.set_cons_succ, List.getElem?_cons_zero, List.getElem?_cons_succ, dAll, List.length_cons, List.length_nil, Nat.zero_add, Nat.reduceAdd, Nat.reduceLeDiff, Nat.reduceLT, Nat.reduceMul, sz0, sz1, sz2, sz3, sz4, sz5, sy0, sy1, sy2, sy3, sy4, if_true, List.nil_append, List.cons_append, isLst, mthD, addI, subI, subL, subT, at0, at1, at2, at3, cLt, cLe, cGt, cGe, cEqI, cNeI, cEqS, cNeS, decide_true, decide_false, Int.reduceLT, Int.reduceLE, Int.reduceSub, Int.reduceAdd, Int.reduceNeg, Int.reduceToNat, Int.cast_ofNat_Int, Bool.not_true, Bool.not_false, keepD, wipeE, biLenL, biLenT, biAbs, biRepr, biMin, biMax, biTupL, biTupT, biLstL, biLstT, biIntI, biIntB, biAll, biAny, biSum, wback, and_true, true_and, beq_self_eq_true, Int.reduceBEq, filmD]
  refine okFor (fun left env st => ∃ p l v3 v4, F = p ++ l ∧ left = l.map pcD ∧ env = [some (.d (.tuple (F.map pcD))), some (.r 0), some (.d (.int (total p))), v3, v4] ∧ st = [.lst ((begins 0 p).map .int)]) ⟨[], F, _, _, rfl, rfl, rfl, rfl⟩ (fun x r env st ⟨p, l, v3, v4, h1, h2, h3, h4⟩ => ?_) fun env st ⟨p, l, v3, v4, h1, h2, h3, h4⟩ => ?_
  · subst h3 h4
    cases l with
    | nil => cases h2
    | cons q l =>
      cases h2
      have hp : p.length + l.length + 1 ≤ 1000 := by
        have := congrArg List.length h1
        simp at this; omega
      have hz : ((begins 0 p).map PyData.int).length < sizeLine := by
        have := sl1000
        rw [List.length_map, begins_len]; omega
      rw [turn_for (env' := [some (.d (.tuple (F.map pcD))), some (.r 0), some (.d (.int (total p))), some (.d (ctD q.1)), some (.d (.int q.2))]) rfl]
      unfold bSta_l0
      simp only [Ss_cons, Ss_nil, then_nx, then_ret, then_bk, then_ct, then_rtt, S_aug, aug_g, aug_add, aug_sub, S_rett, S_rais, S_tryx, E_isx, E_fld, I_enu, I_ezip, kEzip, I_chr, chr_at, E_callk, kCk1_at, calm_k, ok_calm, outK_rtt, S_expr, kNx, S_asg, S_par, S_put, kPut1_at, kPut2_at, S_dput, kDput1_at, kDput2_at, S_ifs, kIfs, selS_tt, selS_ff, S_for, kFor_at, S_ret, kRet, S_pass, S_brk, S_cnt, setTo, parTo, putTo, E_var, get_v, E_int, E_bl, E_non, E_str, E_cst, E_bin, kBin, bin2, bin3_at, bin4, E_neg, neg_v, E_nt, ntV, notB_t, notB_f, E_cmp, kCmp, cmp2, cmp3_at, cmp4, E_cmp2, kChain, chainC, chain3, chain4, selC_tt, selC_ff, E_and, kAnd, selA_tt, selA_ff, E_or, kOr, selO_tt, selO_ff, E_ifx, kIfx, selE_tt, selE_ff, E_tup, mkT, E_lst, mkL, E_lstS, mkS, E_sub, kSub, sub2, sub3_at, sub4, E_slc, kSlc1, kSlc2, slc2, slc3, ptOf_at, ptK_t, ptK_f, isNilE, E_rev, revV, rev3_t, rev3_l, E_nil, E_own, ownV, E_call, kCall_at, E_bi, kBi, bi3, E_isin, kIsin, isin3, E_lc, kLc_at, lcEnd_t, lcEnd_f, E_mth, kMth_at, selM_t, Es_nil, Es_cons, kEs, kEs2, I_val, I_1, I_2, kI2, I_3, kI3, kI3b, I_zip, kZip, E_lzip, kLz, kTurn, selT_tt, selT_ff, srcL, srcT, forS_fix, lcS_fix, bnd_k, ok_ok, ok_bnd, okK_at, out_at, outK_ret, outK_nx, backK_d, asD, rd, asDs, lift_some, tru, truD, intV, isTy, sG1, sG2, sG3, sG4, setPar, Option.bind_some, Option.map_some, List.set_cons_zero, List.set_cons_succ, List.getElem?_cons_zero, List.getElem?_cons_succ, dAll, List.length_cons, List.length_nil, Nat.zero_add, Nat.reduceAdd, Nat.reduceLeDiff, Nat.reduceLT, Nat.reduceMul, sz0, sz1, sz2, sz3, sz4, sz5, sy0, sy1, sy2, sy3, sy4, if_true, List.nil_append, List.cons_append, isLst, mthD, addI, subI, subL, subT, at0, at1, at2, at3, cLt, cLe, cGt, cGe, cEqI, cNeI, cEqS, cNeS, decide_true, decide_false, Int.reduceLT, Int.reduceLE, Int.reduceSub, Int.reduceAdd, Int.reduceNeg, Int.reduceToNat, Int.cast_ofNat_Int, Bool.not_true, Bool.not_false, keepD, wipeE, biLenL, biLenT, biAbs, biRepr, biMin, biMax, biTupL, biTupT, biLstL, biLstT, biIntI, biIntB, biAll, biAny, biSum, wback, and_true, true_and, beq_self_eq_true, Int.reduceBEq, hz, ctD]
      refine ⟨p ++ [q], l, _, _, by rw [h1]; simp, rfl, by rw [total_snoc, Int.add_sub_assoc], ?_⟩
      rw [begins_snoc, List.map_append]
      simp
  · cases l with
    | cons q l => cases h2
    | nil =>
      subst h3 h4
      rw [List.append_nil] at h1
      subst h1
      simp only [Ss_cons, Ss_nil, then_nx, then_ret, then_bk, then_ct, then_rtt, S_aug, aug_g, aug_add, aug_sub, S_rett, S_rais, S_tryx, E_isx, E_fld, I_enu, I_ezip, kEzip, I_chr, chr_at, E_callk, kCk1_at, calm_k, ok_calm, outK_rtt, S_expr, kNx, S_asg, S_par, S_put, kPut1_at, kPut2_at, S_dput, kDput1_at, kDput2_at, S_ifs, kIfs, selS_tt, selS_ff, S_for, kFor_at, S_ret, kRet, S_pass, S_brk, S_cnt, setTo, parTo, putTo, E_var, get_v, E_int, E_bl, E_non, E_str, E_cst, E_bin, kBin, bin2, bin3_at, bin4, E_neg, neg_v, E_nt, ntV, notB_t, notB_f, E_cmp, kCmp, cmp2, cmp3_at, cmp4, E_cmp2, kChain, chainC, chain3, chain4, selC_tt, selC_ff, E_and, kAnd, selA_tt, selA_ff, E_or, kOr, selO_tt, selO_ff, E_ifx, kIfx, selE_tt, selE_ff, E_tup, mkT, E_lst, mkL, E_lstS, mkS, E_sub, kSub, sub2, sub3_at, sub4, E_slc, kSlc1, kSlc2, slc2, slc3, ptOf_at, ptK_t, ptK_f, isNilE, E_rev, revV, rev3_t, rev3_l, E_nil, E_own, ownV, E_call, kCall_at, E_bi, kBi, bi3, E_isin, kIsin, isin3, E_lc, kLc_at, lcEnd_t, lcEnd_f, E_mth, kMth_at, selM_t, Es_nil, Es_cons, kEs, kEs2, I_val, I_1, I_2, kI2, I_3, kI3, kI3b, I_zip, kZip, E_lzip, kLz, kTurn, selT_tt, selT_ff, srcL, srcT, forS_fix, lcS_fix, bnd_k, ok_ok, ok_bnd, okK_at, out_at, outK_ret, outK_nx, backK_d, asD, rd, asDs, lift_some, tru, truD, intV, isTy, sG1, sG2, sG3, sG4, setPar, Option.bind_some, Option.map_some, List.set_cons_zero, List.set_cons_succ, List.getElem?_cons_zero, List.getElem?_cons_succ, dAll, List.length_cons, List.length_nil, Nat.zero_add, Nat.reduceAdd, Nat.reduceLeDiff, Nat.reduceLT, Nat.reduceMul, sz0, sz1, sz2, sz3, sz4, sz5, sy0, sy1, sy2, sy3, sy4, if_true, List.nil_append, List.cons_append, isLst, mthD, addI, subI, subL, subT, at0, at1, at2, at3, cLt, cLe, cGt, cGe, cEqI, cNeI, cEqS, cNeS, decide_true, decide_false, Int.reduceLT, Int.reduceLE, Int.reduceSub, Int.reduceAdd, Int.reduceNeg, Int.reduceToNat, Int.cast_ofNat_Int, Bool.not_true, Bool.not_false, keepD, wipeE, biLenL, biLenT, biAbs, biRepr, biMin, biMax, biTupL, biTupT, biLstL, biLstT, biIntI, biIntB, biAll, biAny, biSum, wback, and_true, true_and, beq_self_eq_true, Int.reduceBEq, rett_at (show [Vl.r 0, Vl.d (.int (total F))].length ≤ sizeLine from sz2), frzV, Nat.lt_irrefl, if_false]
      first | done | rfl | exact ⟨rfl, rfl⟩
theorem lenRun {i : Nat} {nm x0 x1 x2 : Str} (h : T[i]? = some ⟨nm, 1, [x0, x1, x2], bLen, true, false⟩) {F : Fm} (hF : F.length ≤ 1000) {st : Sto} :
    callF cs T W (k + 1) i [.d (filmD F)] st = .ok (.d (.int (total F))) st := by
  refine Ok.eq (okP h rfl rfl ?_)
  show Ok (outOf 0 (evSs cs (callF cs T W k) W bLen [some (.d (filmD F)), none, none] [])) _
  unfold bLen bLen_c0
  simp only [Ss_cons, Ss_nil, then_nx, then_ret, then_bk, then_ct, then_rtt, S_aug, aug_g, aug_add, aug_sub, S_rett, S_rais, S_tryx, E_isx, E_fld, I_enu, I_ezip, kEzip, I_chr, chr_at, E_callk, kCk1_at, calm_k, ok_calm, outK_rtt, S_expr, kNx, S_asg, S_par, S_put, kPut1_at, kPut2_at, S_dput, kDput1_at, kDput2_at, S_ifs, kIfs, selS_tt, selS_ff, S_for, kFor_at, S_ret, kRet, S_pass, S_brk, S_cnt, setTo, parTo, putTo, E_var, get_v, E_int, E_bl, E_non, E_str, E_cst, E_bin, kBin, bin2, bin3_at, bin4, E_neg, neg_v, E_nt, ntV, notB_t, notB_f, E_cmp, kCmp, cmp2, cmp3_at, cmp4, E_cmp2, kChain, chainC, chain3, chain4, selC_tt, selC_ff, E_and, kAnd, selA_tt, selA_ff, E_or, kOr, selO_tt, selO_ff, E_ifx, kIfx, selE_tt, selE_ff, E_tup, mkT, E_lst, mkL, E_lstS, mkS, E_sub, kSub, sub2, sub3_at, sub4, E_slc, kSlc1, kSlc2, slc2, slc3, ptOf_at, ptK_t, ptK_f, isNilE, E_rev, revV, rev3_t, rev3_l, E_nil, E_own, ownV, E_call, kCall_at, E_bi, kBi, bi3, E_isin, kIsin, isin3, E_lc, kLc_at, lcEnd_t, lcEnd_f, E_mth, kMth_at, selM_t, Es_nil, Es_cons, kEs, kEs2, I_val, I_1, I_2, kI2, I_3, kI3, kI3b, I_zip, kZip, E_lzip, kLz, kTurn, selT_tt, selT_ff, srcL, srcT, forS_fix, lcS_fix, bnd_k, ok_ok, ok_bnd, okK_at, out_at, outK_ret, outK_nx, backK_d, asD, rd, asDs, lift_some, tru, truD, intV, isTy, sG1, sG2, sG3, sG4, setPar, Option.bind_some, Option.map_some, List.set_cons_zero, List.set_cons_succ, List.getElem?_cons_zero, List.getElem?_cons_succ, dAll, List.length_cons, List.length_nil, Nat.zero_add, Nat.reduceAdd, Nat.reduceLeDiff, Nat.reduceLT, Nat.reduceMul, sz0, sz1, sz2, sz3, sz4, sz5, sy0, sy1, sy2, sy3, sy4, if_true, List.nil_append, List.cons_append, isLst, mthD, addI, subI, subL, subT, at0, at1, at2, at3, cLt, cLe, cGt, cGe, cEqI, cNeI, cEqS, cNeS, decide_true, decide_false, Int.reduceLT, Int.reduceLE, Int.reduceSub, Int.reduceAdd, Int.reduceNeg, Int.reduceToNat, Int.cast_ofNat_Int, Bool.not_true, Bool.not_false, keepD, wipeE, biLenL, biLenT, biAbs, biRepr, biMin, biMax, biTupL, biTupT, biLstL, biLstT, biIntI, biIntB, biAll, biAny, biSum, wback, and_true, true_and, beq_self_eq_true, Int.reduceBEq, filmD]
  rw [lcG' pcD (fun p => PyData.int (p.1.m - p.2)) F (fun p hp => by
    rw [turn_lc (env' := [some (.d (.tuple (F.map pcD))), some (.d (ctD p.1)), some (.d (.int p.2))]) rfl]
    simp only [Ss_cons, Ss_nil, then_nx, then_ret, then_bk, then_ct, then_rtt, S_aug, aug_g, aug_add, aug_sub, S_rett, S_rais, S_tryx, E_isx, E_fld, I_enu, I_ezip, kEzip, I_chr, chr_at, E_callk, kCk1_at, calm_k, ok_calm, outK_rtt, S_expr, kNx, S_asg, S_par, S_put, kPut1_at, kPut2_at, S_dput, kDput1_at, kDput2_at, S_ifs, kIfs, selS_tt, selS_ff, S_for, kFor_at, S_ret, kRet, S_pass, S_brk, S_cnt, setTo, parTo, putTo, E_var, get_v, E_int, E_bl, E_non, E_str, E_cst, E_bin, kBin, bin2, bin3_at, bin4, E_neg, neg_v, E_nt, ntV, notB_t, notB_f, E_cmp, kCmp, cmp2, cmp3_at, cmp4, E_cmp2, kChain, chainC, chain3, chain4, selC_tt, selC_ff, E_and, kAnd, selA_tt, selA_ff, E_or, kOr, selO_tt, selO_ff, E_ifx, kIfx, selE_tt, selE_ff, E_tup, mkT, E_lst, mkL, E_lstS, mkS, E_sub, kSub, sub2, sub3_at, sub4, E_slc, kSlc1, kSlc2, slc2, slc3, ptOf_at, ptK_t, ptK_f, isNilE, E_rev, revV, rev3_t, rev3_l, E_nil, E_own, ownV, E_call, kCall_at, E_bi, kBi, bi3, E_isin, kIsin, isin3, E_lc, kLc_at, lcEnd_t, lcEnd_f, E_mth, kMth_at, selM_t, Es_nil, Es_cons, kEs, kEs2, I_val, I_1, I_2, kI2, I_3, kI3, kI3b, I_zip, kZip, E_lzip, kLz, kTurn, selT_tt, selT_ff, srcL, srcT, forS_fix, lcS_fix, bnd_k, ok_ok, ok_bnd, okK_at, out_at, outK_ret, outK_nx, backK_d, asD, rd, asDs, lift_some, tru, truD, intV, isTy, sG1, sG2, sG3, sG4, setPar, Option.bind_some, Option.map_some, List.set_cons_zero, List.set_cons_succ, List.getElem?_cons_zero, List.getElem?_cons_succ, dAll, List.length_cons, List.length_nil, Nat.zero_add, Nat.reduceAdd, Nat.reduceLeDiff, Nat.reduceLT, Nat.reduceMul, sz0, sz1, sz2, sz3, sz4, sz5, sy0, sy1, sy2, sy3, sy4, if_true, List.nil_append, List.cons_append, isLst, mthD, addI, subI, subL, subT, at0, at1, at2, at3, cLt, cLe, cGt, cGe, cEqI, cNeI, cEqS, cNeS, decide_true, decide_false, Int.reduceLT, Int.reduceLE, Int.reduceSub, Int.reduceAdd, Int.reduceNeg, Int.reduceToNat, Int.cast_ofNat_Int, Bool.not_true, Bool.not_false, keepD, wipeE, biLenL, biLenT, biAbs, biRepr, biMin, biMax, biTupL, biTupT, biLstL, biLstT, biIntI, biIntB, biAll, biAny, biSum, wback, and_true, true_and, beq_self_eq_true, Int.reduceBEq, ctD]) (Nat.le_trans hF sl1000)]
  simp only [Ss_cons, Ss_nil, then_nx, then_ret, then_bk, then_ct, then_rtt, S_aug, aug_g, aug_add, aug_sub, S_rett, S_rais, S_tryx, E_isx, E_fld, I_enu, I_ezip, kEzip, I_chr, chr_at, E_callk, kCk1_at, calm_k, ok_calm, outK_rtt, S_expr, kNx, S_asg, S_par, S_put, kPut1_at, kPut2_at, S_dput, kDput1_at, kDput2_at, S_ifs, kIfs, selS_tt, selS_ff, S_for, kFor_at, S_ret, kRet, S_pass, S_brk, S_cnt, setTo, parTo, putTo, E_var, get_v, E_int, E_bl, E_non, E_str, E_cst, E_bin, kBin, bin2, bin3_at, bin4, E_neg, neg_v, E_nt, ntV, notB_t, notB_f, E_cmp, kCmp, cmp2, cmp3_at, cmp4, E_cmp2, kChain, chainC, chain3, chain4, selC_tt, selC_ff, E_and, kAnd, selA_tt, selA_ff, E_or, kOr, selO_tt, selO_ff, E_ifx, kIfx, selE_tt, selE_ff, E_tup, mkT, E_lst, mkL, E_lstS, mkS, E_sub, kSub, sub2, sub3_at, sub4, E_slc, kSlc1, kSlc2, slc2, slc3, ptOf_at, ptK_t, ptK_f, isNilE, E_rev, revV, rev3_t, rev3_l, E_nil, E_own, ownV, E_call, kCall_at, E_bi, kBi, bi3, E_isin, kIsin, isin3, E_lc, kLc_at, lcEnd_t, lcEnd_f, E_mth, kMth_at, selM_t, Es_nil, Es_cons, kEs, kEs2, I_val, I_1, I_2, kI2, I_3, kI3, kI3b, I_zip, kZip, E_lzip, kLz, kTurn, selT_tt, selT_ff, srcL, srcT, forS_fix, lcS_fix, bnd_k, ok_ok, ok_bnd, okK_at, out_at, outK_ret, outK_nx, backK_d, asD, rd, asDs, lift_some, tru, truD, intV, isTy, sG1, sG2, sG3, sG4, setPar, Option.bind_some, Option.map_some, List.set_cons_zero, List.set_cons_succ, List.getElem?_cons_zero, List.getElem?_cons_succ, dAll, List.length_cons, List.length_nil, Nat.zero_add, Nat.reduceAdd, Nat.reduceLeDiff, Nat.reduceLT, Nat.reduceMul, sz0, sz1, sz2, sz3, sz4, sz5, sy0, sy1, sy2, sy3, sy4, if_true, List.nil_append, List.cons_append, isLst, mthD, addI, subI, subL, subT, at0, at1, at2, at3, cLt, cLe, cGt, cGe, cEqI, cNeI, cEqS, cNeS, decide_true, decide_false, Int.reduceLT, Int.reduceLE, Int.reduceSub, Int.reduceAdd, Int.reduceNeg, Int.reduceToNat, Int.cast_ofNat_Int, Bool.not_true, Bool.not_false, keepD, wipeE, biLenL, biLenT, biAbs, biRepr, biMin, biMax, biTupL, biTupT, biLstL, biLstT, biIntI, biIntB, biAll, biAny, biSum, wback, and_true, true_and, beq_self_eq_true, Int.reduceBEq, intsM (fun p : Ct × Int => p.1.m - p.2)]
  first | done | rfl | exact ⟨rfl, rfl⟩
theorem frmRun {i : Nat} {nm x0 x1 x2 x3 x4 x5 : Str} (h : T[i]? = some ⟨nm, 2, [x0, x1, x2, x3, x4, x5], bFrm, true, false⟩) {c : Ct} {j : Int} (hj : j.natAbs < 2 ^ 64) (ht : c.t.natAbs < 2 ^ 64) {st : Sto} :
    callF cs T W (k + 1) i [.d (ctD c), .d (.int j)] st = .ok (.d (.int (c.f + j * c.t))) st := by
  refine Ok.eq (okP h rfl rfl ?_)
  show Ok (outOf 0 (evSs cs (callF cs T W k) W bFrm [some (.d (ctD c)), some (.d (.int j)), none, none, none, none] [])) _
  have e0 : ∀ env, setG (.tup (.cons (.var 2) (.cons (.var 3) (.cons (.var 4) (.cons (.var 5) .nil))))) (.d (ctD c)) env = some ((((env.set 2 (some (.d (.str c.s)))).set 3 (some (.d (.int c.f)))).set 4 (some (.d (.int c.m)))).set 5 (some (.d (.int c.t)))) := fun env => rfl
  unfold bFrm
  simp only [Ss_cons, Ss_nil, then_nx, then_ret, then_bk, then_ct, then_rtt, S_aug, aug_g, aug_add, aug_sub, S_rett, S_rais, S_tryx, E_isx, E_fld, I_enu, I_ezip, kEzip, I_chr, chr_at, E_callk, kCk1_at, calm_k, ok_calm, outK_rtt, S_expr, kNx, S_asg, S_par, S_put, kPut1_at, kPut2_at, S_dput, kDput1_at, kDput2_at, S_ifs, kIfs, selS_tt, selS_ff, S_for, kFor_at, S_ret, kRet, S_pass, S_brk, S_cnt, setTo, parTo, putTo, E_var, get_v, E_int, E_bl, E_non, E_str, E_cst, E_bin, kBin, bin2, bin3_at, bin4, E_neg, neg_v, E_nt, ntV, notB_t, notB_f, E_cmp, kCmp, cmp2, cmp3_at, cmp4, E_cmp2, kChain, chainC, chain3, chain4, selC_tt, selC_ff, E_and, kAnd, selA_tt, selA_ff, E_or, kOr, selO_tt, selO_ff, E_ifx, kIfx, selE_tt, selE_ff, E_tup, mkT, E_lst, mkL, E_lstS, mkS, E_sub, kSub, sub2, sub3_at, sub4, E_slc, kSlc1, kSlc2, slc2, slc3, ptOf_at, ptK_t, ptK_f, isNilE, E_rev, revV, rev3_t, rev3_l, E_nil, E_own, ownV, E_call, kCall_at, E_bi, kBi, bi3, E_isin, kIsin, isin3, E_lc, kLc_at, lcEnd_t, lcEnd_f, E_mth, kMth_at, selM_t, Es_nil, Es_cons, kEs, kEs2, I_val, I_1, I_2, kI2, I_3, kI3, kI3b, I_zip, kZip, E_lzip, kLz, kTurn, selT_tt, selT_ff, srcL, srcT, forS_fix, lcS_fix, bnd_k, ok_ok, ok_bnd, okK_at, out_at, outK_ret, outK_nx, backK_d, asD, rd, asDs, lift_some, tru, truD, intV, isTy, sG1, sG2, sG3, sG4, setPar, Option.bind_some, Option.map_some, List.set_cons_zero, List.set_cons_succ, List.getElem?_cons_zero, List.getElem?_cons_succ, dAll, List.length_cons, List.length_nil, Nat.zero_add, Nat.reduceAdd, Nat.reduceLeDiff, Nat.reduceLT, Nat.reduceMul, sz0, sz1, sz2, sz3, sz4, sz5, sy0, sy1, sy2, sy3, sy4, if_true, List.nil_append, List.cons_append, isLst, mthD, addI, subI, subL, subT, at0, at1, at2, at3, cLt, cLe, cGt, cGe, cEqI, cNeI, cEqS, cNeS, decide_true, decide_false, Int.reduceLT, Int.reduceLE, Int.reduceSub, Int.reduceAdd, Int.reduceNeg, Int.reduceToNat, Int.cast_ofNat_Int, Bool.not_true, Bool.not_false, keepD, wipeE, biLenL, biLenT, biAbs, biRepr, biMin, biMax, biTupL, biTupT, biLstL, biLstT, biIntI, biIntB, biAll, biAny, biSum, wback, and_true, true_and, beq_self_eq_true, Int.reduceBEq, e0, mulI _ _ (mul_small hj ht)]
  first | done | rfl | exact ⟨rfl, rfl⟩
end
end Ev
end
section
set_option maxRecDepth 10000
/-! films: the cuts at a frame, their shares, the sources -/
namespace Ev
open PySem L2
structure Pl where
  j : Nat
  i : Int
  p : Ct × Int
def places : Nat → Int → Int → Fm → List Pl
  | _, _, _, [] => []
  | j, b, n, p :: r => (if 0 ≤ n - b ∧ n - b < p.1.m then [⟨j, n - b, p⟩] else []) ++ places (j + 1) (b + (p.1.m - p.2)) n r
theorem places_cons (j : Nat) (b n : Int) (p : Ct × Int) (r : Fm) : places j b n (p :: r) = (if 0 ≤ n - b ∧ n - b < p.1.m then [⟨j, n - b, p⟩] else []) ++ places (j + 1) (b + (p.1.m - p.2)) n r := rfl
def plD (x : Pl) : D := .tuple [.int (x.j : Nat), .int x.i]
theorem places_at : ∀ (L : Fm) (j : Nat) (b n : Int) (x : Pl), x ∈ places j b n L → j ≤ x.j ∧ L[x.j - j]? = some x.p ∧ 0 ≤ x.i ∧ x.i < x.p.1.m
  | [], _, _, _, _, h => nomatch h
  | p :: r, j, b, n, x, h => by
    unfold places at h
    rcases List.mem_append.mp h with h | h
    · split at h
      · rename_i hc
        rw [List.mem_singleton.mp h]
        exact ⟨Nat.le_refl _, by simp, hc.1, hc.2⟩
      · cases h
    · obtain ⟨h1, h2, h3⟩ := places_at r (j + 1) _ n x h
      refine ⟨by omega, ?_, h3⟩
      rw [show x.j - j = (x.j - (j + 1)) + 1 by omega, List.getElem?_cons_succ]
      exact h2
/-- fades that fit: a stands over the first cut -/
def Fits : Int → Fm → Prop
  | _, [] => True
  | a, p :: r => 0 ≤ a ∧ a ≤ p.1.m ∧ 0 ≤ p.2 ∧ p.2 ≤ p.1.m - a ∧ (r = [] → p.2 = 0) ∧ Fits p.2 r
theorem places_none : ∀ (L : Fm) (a : Int) (j : Nat) (b n : Int), Fits a L → n < b → places j b n L = []
  | [], _, _, _, _, _, _ => rfl
  | p :: r, a, j, b, n, h, hn => by
    obtain ⟨h1, h2, h3, h4, h5, h6⟩ := h
    unfold places
    rw [if_neg (by omega), places_none r p.2 (j + 1) _ n h6 (by omega)]
    rfl
theorem places_two : ∀ (L : Fm) (a : Int) (j : Nat) (b n : Int), Fits a L → b ≤ n → n < b + total L → ((places j b n L).length = 1 ∨ (places j b n L).length = 2) ∧ (n < b + a → (places j b n L).length = 1)
  | [], _, _, _, _, _, h1, h2 => by simp [total] at h2; omega
  | p :: r, a, j, b, n, h, hb, hn => by
    obtain ⟨h1, h2, h3, h4, h5, h6⟩ := h
    rw [total_cons] at hn
    unfold places
    by_cases hc : n < b + (p.1.m - p.2)
    · rw [if_pos (by omega), places_none r p.2 (j + 1) _ n h6 hc]
      simp
    · have hr : r ≠ [] := fun e => by
        have := h5 e
        rw [e] at hn
        simp [total] at hn
        omega
      obtain ⟨i1, i2⟩ := places_two r p.2 (j + 1) (b + (p.1.m - p.2)) n h6 (by omega) (by omega)
      by_cases hd : n < b + p.1.m
      · rw [if_pos (by omega)]
        have := i2 (by omega)
        refine ⟨.inr (by simp [this]), fun z => by omega⟩
      · rw [if_neg (by omega)]
        exact ⟨by simpa using i1, fun z => by omega⟩
def shares : List Pl → List D
  | [_] => [.tuple [.int 1, .int 1]]
  | [a, b] => [fr (Fr.low (a.p.2 - b.i) (a.p.2 + 1)), fr (Fr.low (b.i + 1) (a.p.2 + 1))]
  | _ => []
def srcD (x : Pl) (s : D) : D := .tuple [.int (x.j : Nat), .int x.i, .int (x.p.1.f + x.i * x.p.1.t), s]
def srcsL : List Pl → List D → List D
  | x :: xs, s :: ss => srcD x s :: srcsL xs ss
  | _, _ => []
/-- a film of small numbers -/
structure Gf (F : Fm) : Prop where
  len : F.length ≤ 100
  fits : Fits 0 F
  sm : ∀ p ∈ F, p.1.f.natAbs < 2 ^ 40 ∧ p.1.t.natAbs < 2 ^ 20 ∧ p.1.m < 2 ^ 20
theorem Fits.all : ∀ {F : Fm} {a : Int}, Fits a F → ∀ p ∈ F, 0 ≤ p.1.m ∧ 0 ≤ p.2 ∧ p.2 ≤ p.1.m
  | [], _, _, _, h => nomatch h
  | q :: r, a, ⟨h1, h2, h3, h4, h5, h6⟩, p, h => by
    rcases List.mem_cons.mp h with e | e
    · subst e; exact ⟨by omega, h3, by omega⟩
    · exact Fits.all h6 p e
section
variable {cs : List D} {T : List FD} {W k : Nat}
theorem cutRun {i beg : Nat} {nm x0 x1 x2 x3 x4 x5 x6 : Str} (h : T[i]? = some ⟨nm, 2, [x0, x1, x2, x3, x4, x5, x6], bCut beg, true, false⟩) {F : Fm} (hF : F.length ≤ 1000) {n : Int} {st : Sto}
    (hb : ∀ st, callF cs T W k beg [.d (filmD F)] st = .ok (.d (.tuple ((begins 0 F).map .int))) st) :
    callF cs T W (k + 1) i [.d (filmD F), .d (.int n)] st = .ok (.d (.list ((places 0 0 n F).map plD))) st := by
  refine Ok.eq (okP h rfl rfl ?_)
  show Ok (outOf 0 (evSs cs (callF cs T W k) W (bCut beg) [some (.d (filmD F)), some (.d (.int n)), none, none, none, none, none] [])) _
  unfold bCut
  have ez : ∀ st, ezipOf true (.d (.tuple ((begins 0 F).map .int))) (.d (filmD F)) st = .ok (.fix (enumD 0 (pairsD ((begins 0 F).map .int) (F.map pcD)))) st := fun st => ezip_at rfl rfl fun _ => by rw [List.length_map, List.length_map, begins_len]
  simp only [Ss_cons, Ss_nil, then_nx, then_ret, then_bk, then_ct, then_rtt, S_aug, aug_g, aug_add, aug_sub, S_rett, S_rais, S_tryx, E_isx, E_fld, I_enu, I_ezip, kEzip, I_chr, chr_at, E_callk, kCk1_at, calm_k, ok_calm, outK_rtt, S_expr, kNx, S_asg, S_par, S_put, kPut1_at, kPut2_at, S_dput, kDput1_at, kDput2_at, S_ifs, kIfs, selS_tt, selS_ff, S_for, kFor_at, S_ret, kRet, S_pass, S_brk, S_cnt, setTo, parTo, putTo, E_var, get_v, E_int, E_bl, E_non, E_str, E_cst, E_bin, kBin, bin2, bin3_at, bin4, E_neg, neg_v, E_nt, ntV, notB_t, notB_f, E_cmp, kCmp, cmp2, cmp3_at, cmp4, E_cmp2, kChain, chainC, chain3, chain4, selC_tt, selC_ff, E_and, kAnd, selA_tt, selA_ff, E_or, kOr, selO_tt, selO_ff, E_ifx, kIfx, selE_tt, selE_ff, E_tup, mkT, E_lst, mkL, E_lstS, mkS, E_sub, kSub, sub2, sub3_at, sub4, E_slc, kSlc1, kSlc2, slc2, slc3, ptOf_at, ptK_t, ptK_f, isNilE, E_rev, revV, rev3_t, rev3_l, E_nil, E_own, ownV, E_call, kCall_at, E_bi, kBi, bi3, E_isin, kIsin, isin3, E_lc, kLc_at, lcEnd_t, lcEnd_f, E_mth, kMth_at, selM_t, Es_nil, Es_cons, kEs, kEs2, I_val, I_1, I_2, kI2, I_3, kI3, kI3b, I_zip, kZip, E_lzip, kLz, kTurn, selT_tt, selT_ff, srcL, srcT, forS_fix, lcS_fix, bnd_k, ok_ok, ok_bnd, okK_at, out_at, outK_ret, outK_nx, backK_d, asD, rd, asDs, lift_some, tru, truD, intV, isTy, sG1, sG2, sG3, sG4, setPar, Option.bind_some, Option.map_some, List.set_cons_zero, List.set_cons_succ, List.getElem?_cons_zero, List.getElem?_cons_succ, dAll, List.length_cons, List.length_nil, Nat.zero_add, Nat.reduceAdd, Nat.reduceLeDiff, Nat.reduceLT, Nat.reduceMul, sz0, sz1, sz2, sz3, sz4, sz5, sy0, sy1, sy2, sy3, sy4, if_true, List.nil_append, List.cons_append, isLst, mthD, addI, subI, subL, subT, at0, at1, at2, at3, cLt, cLe, cGt, cGe, cEqI, cNeI, cEqS, cNeS, decide_true, decide_false, Int.reduceLT, Int.reduceLE, Int.reduceSub, Int.reduceAdd, Int.reduceNeg, Int.reduceToNat, Int.cast_ofNat_Int, Bool.not_true, Bool.not_false, keepD, wipeE, biLenL, biLenT, biAbs, biRepr, biMin, biMax, biTupL, biTupT, biLstL, biLstT, biIntI, biIntB, biAll, biAny, biSum, wback, and_true, true_and, beq_self_eq_true, Int.reduceBEq, hb, ez]
  refine okFor (fun left env st => ∃ (j : Nat) (b : Int) (L : Fm) (acc : List D) (v3 v4 v5 v6 : Option Vl), left = enumD j (pairsD ((begins b L).map .int) (L.map pcD)) ∧ env = [some (.d (filmD F)), some (.d (.int n)), some (.r 0), v3, v4, v5, v6] ∧ st = [.lst acc] ∧ acc ++ (places j b n L).map plD = (places 0 0 n F).map plD ∧ acc.length + L.length ≤ 1000)
    ⟨0, 0, F, [], none, none, none, none, rfl, rfl, rfl, rfl, by simpa using hF⟩ (fun x r env st ⟨j, b, L, acc, v3, v4, v5, v6, h1, h2, h3, h4, h5⟩ => ?_) fun env st ⟨j, b, L, acc, v3, v4, v5, v6, h1, h2, h3, h4, h5⟩ => ?_
  · subst h2 h3
    cases L with
    | nil => cases h1
    | cons q L =>
      cases h1
      simp only [List.length_cons] at h5
      have hz : acc.length < sizeLine := by have := sl1000; omega
      rw [turn_for (env' := [some (.d (filmD F)), some (.d (.int n)), some (.r 0), some (.d (.int (j : Nat))), some (.d (.int b)), some (.d (ctD q.1)), some (.d (.int q.2))]) rfl]
      unfold bCut_l0
      rw [places_cons] at h4
      by_cases c1 : 0 ≤ n - b
      · by_cases c2 : n - b < q.1.m
        · rw [if_pos ⟨c1, c2⟩] at h4
          simp only [Ss_cons, Ss_nil, then_nx, then_ret, then_bk, then_ct, then_rtt, S_aug, aug_g, aug_add, aug_sub, S_rett, S_rais, S_tryx, E_isx, E_fld, I_enu, I_ezip, kEzip, I_chr, chr_at, E_callk, kCk1_at, calm_k, ok_calm, outK_rtt, S_expr, kNx, S_asg, S_par, S_put, kPut1_at, kPut2_at, S_dput, kDput1_at, kDput2_at, S_ifs, kIfs, selS_tt, selS_ff, S_for, kFor_at, S_ret, kRet, S_pass, S_brk, S_cnt, setTo, parTo, putTo, E_var, get_v, E_int, E_bl, E_non, E_str, E_cst, E_bin, kBin, bin2, bin3_at, bin4, E_neg, neg_v, E_nt, ntV, notB_t, notB_f, E_cmp, kCmp, cmp2, cmp3_at, cmp4, E_cmp2, kChain, chainC, chain3, chain4, selC_tt, selC_ff, E_and, kAnd, selA_tt, selA_ff, E_or, kOr, selO_tt, selO_ff, E_ifx, kIfx, selE_tt, selE_ff, E_tup, mkT, E_lst, mkL, E_lstS, mkS, E_sub, kSub, sub2, sub3_at, sub4, E_slc, kSlc1, kSlc2, slc2, slc3, ptOf_at, ptK_t, ptK_f, isNilE, E_rev, revV, rev3_t, rev3_l, E_nil, E_own, ownV, E_call, kCall_at, E_bi, kBi, bi3, E_isin, kIsin, isin3, E_lc, kLc_at, lcEnd_t, lcEnd_f, E_mth, kMth_at, selM_t, Es_nil, Es_cons, kEs, kEs2, I_val, I_1, I_2, kI2, I_3, kI3, kI3b, I_zip, kZip, E_lzip, kLz, kTurn, selT_tt, selT_ff, srcL, srcT, forS_fix, lcS_fix, bnd_k, ok_ok, ok_bnd, okK_at, out_at, outK_ret, outK_nx, backK_d, asD, rd, asDs, lift_some, tru, truD, intV, isTy, sG1, sG2, sG3, sG4, setPar, Option.bind_some, Option.map_some, List.set_cons_zero, List.set_cons_succ, List.getElem?_cons_zero, List.getElem?_cons_succ, dAll, List.length_cons, List.length_nil, Nat.zero_add, Nat.reduceAdd, Nat.reduceLeDiff, Nat.reduceLT, Nat.reduceMul, sz0, sz1, sz2, sz3, sz4, sz5, sy0, sy1, sy2, sy3, sy4, if_true, List.nil_append, List.cons_append, isLst, mthD, addI, subI, subL, subT, at0, at1, at2, at3, cLt, cLe, cGt, cGe, cEqI, cNeI, cEqS, cNeS, decide_true, decide_false, Int.reduceLT, Int.reduceLE, Int.reduceSub, Int.reduceAdd, Int.reduceNeg, Int.reduceToNat, Int.cast_ofNat_Int, Bool.not_true, Bool.not_false, keepD, wipeE, biLenL, biLenT, biAbs, biRepr, biMin, biMax, biTupL, biTupT, biLstL, biLstT, biIntI, biIntB, biAll, biAny, biSum, wback, and_true, true_and, beq_self_eq_true, Int.reduceBEq, hz, ctD, c1, c2]
          exact ⟨j + 1, _, L, acc ++ [plD ⟨j, n - b, q⟩], _, _, _, _, rfl, rfl, rfl, by rw [← h4]; simp, by simp; omega⟩
        · rw [if_neg fun z => c2 z.2] at h4
          simp only [Ss_cons, Ss_nil, then_nx, then_ret, then_bk, then_ct, then_rtt, S_aug, aug_g, aug_add, aug_sub, S_rett, S_rais, S_tryx, E_isx, E_fld, I_enu, I_ezip, kEzip, I_chr, chr_at, E_callk, kCk1_at, calm_k, ok_calm, outK_rtt, S_expr, kNx, S_asg, S_par, S_put, kPut1_at, kPut2_at, S_dput, kDput1_at, kDput2_at, S_ifs, kIfs, selS_tt, selS_ff, S_for, kFor_at, S_ret, kRet, S_pass, S_brk, S_cnt, setTo, parTo, putTo, E_var, get_v, E_int, E_bl, E_non, E_str, E_cst, E_bin, kBin, bin2, bin3_at, bin4, E_neg, neg_v, E_nt, ntV, notB_t, notB_f, E_cmp, kCmp, cmp2, cmp3_at, cmp4, E_cmp2, kChain, chainC, chain3, chain4, selC_tt, selC_ff, E_and, kAnd, selA_tt, selA_ff, E_or, kOr, selO_tt, selO_ff, E_ifx, kIfx, selE_tt, selE_ff, E_tup, mkT, E_lst, mkL, E_lstS, mkS, E_sub, kSub, sub2, sub3_at, sub4, E_slc, kSlc1, kSlc2, slc2, slc3, ptOf_at, ptK_t, ptK_f, isNilE, E_rev, revV, rev3_t, rev3_l, E_nil, E_own, ownV, E_call, kCall_at, E_bi, kBi, bi3, E_isin, kIsin, isin3, E_lc, kLc_at, lcEnd_t, lcEnd_f, E_mth, kMth_at, selM_t, Es_nil, Es_cons, kEs, kEs2, I_val, I_1, I_2, kI2, I_3, kI3, kI3b, I_zip, kZip, E_lzip, kLz, kTurn, selT_tt, selT_ff, srcL, srcT, forS_fix, lcS_fix, bnd_k, ok_ok, ok_bnd, okK_at, out_at, outK_ret, outK_nx, backK_d, asD, rd, asDs, lift_some, tru, truD, intV, isTy, sG1, sG2, sG3, sG4, setPar, Option.bind_some, Option.map_some, List.set_cons_zero, List.set_cons_succ, List.getElem?_cons_zero, List.getElem?_cons_succ, dAll, List.length_cons, List.length_nil, Nat.zero_add, Nat.reduceAdd, Nat.reduceLeDiff, Nat.reduceLT, Nat.reduceMul, sz0, sz1, sz2, sz3, sz4, sz5, sy0, sy1, sy2, sy3, sy4, if_true, List.nil_append, List.cons_append, isLst, mthD, addI, subI, subL, subT, at0, at1, at2, at3, cLt, cLe, cGt, cGe, cEqI, cNeI, cEqS, cNeS, decide_true, decide_false, Int.reduceLT, Int.reduceLE, Int.reduceSub, Int.reduceAdd, Int.reduceNeg, Int.reduceToNat, Int.cast_ofNat_Int, Bool.not_true, Bool.not_false, keepD, wipeE, biLenL, biLenT, biAbs, biRepr, biMin, biMax, biTupL, biTupT, biLstL, biLstT, biIntI, biIntB, biAll, biAny, biSum, wback, and_true, true_and, beq_self_eq_true, Int.reduceBEq, hz, ctD, c1, c2]
          exact ⟨j + 1, _, L, acc, _, _, _, _, rfl, rfl, rfl, by rw [← h4]; simp, by omega⟩
      · rw [if_neg fun z => c1 z.1] at h4
        simp only [Ss_cons, Ss_nil, then_nx, then_ret, then_bk, then_ct, then_rtt, S_aug, aug_g, aug_add, aug_sub, S_rett, S_rais, S_tryx, E_isx, E_fld, I_enu, I_ezip, kEzip, I_chr, chr_at, E_callk, kCk1_at, calm_k, ok_calm, outK_rtt, S_expr, kNx, S_asg, S_par, S_put, kPut1_at, kPut2_at, S_dput, kDput1_at, kDput2_at, S_ifs, kIfs, selS_tt, selS_ff, S_for, kFor_at, S_ret, kRet, S_pass, S_brk, S_cnt, setTo, parTo, putTo, E_var, get_v, E_int, E_bl, E_non, E_str, E_cst, E_bin, kBin, bin2, bin3_at, bin4, E_neg, neg_v, E_nt, ntV, notB_t, notB_f, E_cmp, kCmp, cmp2, cmp3_at, cmp4, E_cmp2, kChain, chainC, chain3, chain4, selC_tt, selC_ff, E_and, kAnd, selA_tt, selA_ff, E_or, kOr, selO_tt, selO_ff, E_ifx, kIfx, selE_tt, selE_ff, E_tup, mkT, E_lst, mkL, E_lstS, mkS, E_sub, kSub, sub2, sub3_at, sub4, E_slc, kSlc1, kSlc2, slc2, slc3, ptOf_at, ptK_t, ptK_f, isNilE, E_rev, revV, rev3_t, rev3_l, E_nil, E_own, ownV, E_call, kCall_at, E_bi, kBi, bi3, E_isin, kIsin, isin3, E_lc, kLc_at, lcEnd_t, lcEnd_f, E_mth, kMth_at, selM_t, Es_nil, Es_cons, kEs, kEs2, I_val, I_1, I_2, kI2, I_3, kI3, kI3b, I_zip, kZip, E_lzip, kLz, kTurn, selT_tt, selT_ff, srcL, srcT, forS_fix, lcS_fix, bnd_k, ok_ok, ok_bnd, okK_at, out_at, outK_ret, outK_nx, backK_d, asD, rd, asDs, lift_some, tru, truD, intV, isTy, sG1, sG2, sG3, sG4, setPar, Option.bind_some, Option.map_some, List.set_cons_zero, List.set_cons_succ, List.getElem?_cons_zero, List.getElem?_cons_succ, dAll, List.length_cons, List.length_nil, Nat.zero_add, Nat.reduceAdd, Nat.reduceLeDiff, Nat.reduceLT, Nat.reduceMul, sz0, sz1, sz2, sz3, sz4, sz5, sy0, sy1, sy2, sy3, sy4, if_true, List.nil_append, List.cons_append, isLst, mthD, addI, subI, subL, subT, at0, at1, at2, at3, cLt, cLe, cGt, cGe, cEqI, cNeI, cEqS, cNeS, decide_true, decide_false, Int.reduceLT, Int.reduceLE, Int.reduceSub, Int.reduceAdd, Int.reduceNeg, Int.reduceToNat, Int.cast_ofNat_Int, Bool.not_true, Bool.not_false, keepD, wipeE, biLenL, biLenT, biAbs, biRepr, biMin, biMax, biTupL, biTupT, biLstL, biLstT, biIntI, biIntB, biAll, biAny, biSum, wback, and_true, true_and, beq_self_eq_true, Int.reduceBEq, hz, ctD, c1]
        exact ⟨j + 1, _, L, acc, _, _, _, _, rfl, rfl, rfl, by rw [← h4]; simp, by omega⟩
  · cases L with
    | cons q L => cases h1
    | nil =>
      subst h2 h3
      simp only [places, List.map_nil, List.append_nil] at h4
      subst h4
      simp only [Ss_cons, Ss_nil, then_nx, then_ret, then_bk, then_ct, then_rtt, S_aug, aug_g, aug_add, aug_sub, S_rett, S_rais, S_tryx, E_isx, E_fld, I_enu, I_ezip, kEzip, I_chr, chr_at, E_callk, kCk1_at, calm_k, ok_calm, outK_rtt, S_expr, kNx, S_asg, S_par, S_put, kPut1_at, kPut2_at, S_dput, kDput1_at, kDput2_at, S_ifs, kIfs, selS_tt, selS_ff, S_for, kFor_at, S_ret, kRet, S_pass, S_brk, S_cnt, setTo, parTo, putTo, E_var, get_v, E_int, E_bl, E_non, E_str, E_cst, E_bin, kBin, bin2, bin3_at, bin4, E_neg, neg_v, E_nt, ntV, notB_t, notB_f, E_cmp, kCmp, cmp2, cmp3_at, cmp4, E_cmp2, kChain, chainC, chain3, chain4, selC_tt, selC_ff, E_and, kAnd, selA_tt, selA_ff, E_or, kOr, selO_tt, selO_ff, E_ifx, kIfx, selE_tt, selE_ff, E_tup, mkT, E_lst, mkL, E_lstS, mkS, E_sub, kSub, sub2, sub3_at, sub4, E_slc, kSlc1, kSlc2, slc2, slc3, ptOf_at, ptK_t, ptK_f, isNilE, E_rev, revV, rev3_t, rev3_l, E_nil, E_own, ownV, E_call, kCall_at, E_bi, kBi, bi3, E_isin, kIsin, isin3, E_lc, kLc_at, lcEnd_t, lcEnd_f, E_mth, kMth_at, selM_t, Es_nil, Es_cons, kEs, kEs2, I_val, I_1, I_2, kI2, I_3, kI3, kI3b, I_zip, kZip, E_lzip, kLz, kTurn, selT_tt, selT_ff, srcL, srcT, forS_fix, lcS_fix, bnd_k, ok_ok, ok_bnd, okK_at, out_at, outK_ret, outK_nx, backK_d, asD, rd, asDs, lift_some, tru, truD, intV, isTy, sG1, sG2, sG3, sG4, setPar, Option.bind_some, Option.map_some, List.set_cons_zero, List.set_cons_succ, List.getElem?_cons_zero, List.getElem?_cons_succ, dAll, List.length_cons, List.length_nil, Nat.zero_add, Nat.reduceAdd, Nat.reduceLeDiff, Nat.reduceLT, Nat.reduceMul, sz0, sz1, sz2, sz3, sz4, sz5, sy0, sy1, sy2, sy3, sy4, if_true, List.nil_append, List.cons_append, isLst, mthD, addI, subI, subL, subT, at0, at1, at2, at3, cLt, cLe, cGt, cGe, cEqI, cNeI, cEqS, cNeS, decide_true, decide_false, Int.reduceLT, Int.reduceLE, Int.reduceSub, Int.reduceAdd, Int.reduceNeg, Int.reduceToNat, Int.cast_ofNat_Int, Bool.not_true, Bool.not_false, keepD, wipeE, biLenL, biLenT, biAbs, biRepr, biMin, biMax, biTupL, biTupT, biLstL, biLstT, biIntI, biIntB, biAll, biAny, biSum, wback, and_true, true_and, beq_self_eq_true, Int.reduceBEq]
      rw [backK_l rfl rfl]
      first | done | rfl | exact ⟨rfl, rfl⟩
theorem shrRun1 {i low : Nat} {nm x0 x1 x2 x3 x4 x5 x6 : Str} (h : T[i]? = some ⟨nm, 2, [x0, x1, x2, x3, x4, x5, x6], bShr low, true, false⟩) {F x : D} {st : Sto} :
    callF cs T W (k + 1) i [.d F, .d (.list [x])] st = .ok (.d (.list [.tuple [.int 1, .int 1]])) st := by
  refine Ok.eq (okP h rfl rfl ?_)
  show Ok (outOf 0 (evSs cs (callF cs T W k) W (bShr low) [some (.d F), some (.d (.list [x])), none, none, none, none, none] [])) _
  unfold bShr
  simp only [Ss_cons, Ss_nil, then_nx, then_ret, then_bk, then_ct, then_rtt, S_aug, aug_g, aug_add, aug_sub, S_rett, S_rais, S_tryx, E_isx, E_fld, I_enu, I_ezip, kEzip, I_chr, chr_at, E_callk, kCk1_at, calm_k, ok_calm, outK_rtt, S_expr, kNx, S_asg, S_par, S_put, kPut1_at, kPut2_at, S_dput, kDput1_at, kDput2_at, S_ifs, kIfs, selS_tt, selS_ff, S_for, kFor_at, S_ret, kRet, S_pass, S_brk, S_cnt, setTo, parTo, putTo, E_var, get_v, E_int, E_bl, E_non, E_str, E_cst, E_bin, kBin, bin2, bin3_at, bin4, E_neg, neg_v, E_nt, ntV, notB_t, notB_f, E_cmp, kCmp, cmp2, cmp3_at, cmp4, E_cmp2, kChain, chainC, chain3, chain4, selC_tt, selC_ff, E_and, kAnd, selA_tt, selA_ff, E_or, kOr, selO_tt, selO_ff, E_ifx, kIfx, selE_tt, selE_ff, E_tup, mkT, E_lst, mkL, E_lstS, mkS, E_sub, kSub, sub2, sub3_at, sub4, E_slc, kSlc1, kSlc2, slc2, slc3, ptOf_at, ptK_t, ptK_f, isNilE, E_rev, revV, rev3_t, rev3_l, E_nil, E_own, ownV, E_call, kCall_at, E_bi, kBi, bi3, E_isin, kIsin, isin3, E_lc, kLc_at, lcEnd_t, lcEnd_f, E_mth, kMth_at, selM_t, Es_nil, Es_cons, kEs, kEs2, I_val, I_1, I_2, kI2, I_3, kI3, kI3b, I_zip, kZip, E_lzip, kLz, kTurn, selT_tt, selT_ff, srcL, srcT, forS_fix, lcS_fix, bnd_k, ok_ok, ok_bnd, okK_at, out_at, outK_ret, outK_nx, backK_d, asD, rd, asDs, lift_some, tru, truD, intV, isTy, sG1, sG2, sG3, sG4, setPar, Option.bind_some, Option.map_some, List.set_cons_zero, List.set_cons_succ, List.getElem?_cons_zero, List.getElem?_cons_succ, dAll, List.length_cons, List.length_nil, Nat.zero_add, Nat.reduceAdd, Nat.reduceLeDiff, Nat.reduceLT, Nat.reduceMul, sz0, sz1, sz2, sz3, sz4, sz5, sy0, sy1, sy2, sy3, sy4, if_true, List.nil_append, List.cons_append, isLst, mthD, addI, subI, subL, subT, at0, at1, at2, at3, cLt, cLe, cGt, cGe, cEqI, cNeI, cEqS, cNeS, decide_true, decide_false, Int.reduceLT, Int.reduceLE, Int.reduceSub, Int.reduceAdd, Int.reduceNeg, Int.reduceToNat, Int.cast_ofNat_Int, Bool.not_true, Bool.not_false, keepD, wipeE, biLenL, biLenT, biAbs, biRepr, biMin, biMax, biTupL, biTupT, biLstL, biLstT, biIntI, biIntB, biAll, biAny, biSum, wback, and_true, true_and, beq_self_eq_true, Int.reduceBEq]
  first | done | rfl | exact ⟨rfl, rfl⟩
theorem shrRun2 {i low : Nat} {nm x0 x1 x2 x3 x4 x5 x6 : Str} (h : T[i]? = some ⟨nm, 2, [x0, x1, x2, x3, x4, x5, x6], bShr low, true, false⟩) {F : Fm} {a b : Pl} {st : Sto} (ha : F[a.j]? = some a.p)
    (hl : ∀ u st, callF cs T W k low [.d (.int u), .d (.int (a.p.2 + 1))] st = .ok (.d (fr (Fr.low u (a.p.2 + 1)))) st) :
    callF cs T W (k + 1) i [.d (filmD F), .d (.list [plD a, plD b])] st = .ok (.d (.list (shares [a, b]))) st := by
  refine Ok.eq (okP h rfl rfl ?_)
  show Ok (outOf 0 (evSs cs (callF cs T W k) W (bShr low) [some (.d (filmD F)), some (.d (.list [plD a, plD b])), none, none, none, none, none] [])) _
  have e0 : ∀ env, setG (.tup (.cons (.tup (.cons (.var 3) (.cons (.var 4) .nil))) (.cons (.tup (.cons (.var 5) (.cons (.var 6) .nil))) .nil))) (.d (.list [plD a, plD b])) env = some ((((env.set 3 (some (.d (.int (a.j : Nat))))).set 4 (some (.d (.int a.i)))).set 5 (some (.d (.int (b.j : Nat))))).set 6 (some (.d (.int b.i)))) := fun env => rfl
  have e1 : atI (F.map pcD) ((a.j : Nat) : Int) = some (pcD a.p) := atM ha
  unfold bShr
  simp only [Ss_cons, Ss_nil, then_nx, then_ret, then_bk, then_ct, then_rtt, S_aug, aug_g, aug_add, aug_sub, S_rett, S_rais, S_tryx, E_isx, E_fld, I_enu, I_ezip, kEzip, I_chr, chr_at, E_callk, kCk1_at, calm_k, ok_calm, outK_rtt, S_expr, kNx, S_asg, S_par, S_put, kPut1_at, kPut2_at, S_dput, kDput1_at, kDput2_at, S_ifs, kIfs, selS_tt, selS_ff, S_for, kFor_at, S_ret, kRet, S_pass, S_brk, S_cnt, setTo, parTo, putTo, E_var, get_v, E_int, E_bl, E_non, E_str, E_cst, E_bin, kBin, bin2, bin3_at, bin4, E_neg, neg_v, E_nt, ntV, notB_t, notB_f, E_cmp, kCmp, cmp2, cmp3_at, cmp4, E_cmp2, kChain, chainC, chain3, chain4, selC_tt, selC_ff, E_and, kAnd, selA_tt, selA_ff, E_or, kOr, selO_tt, selO_ff, E_ifx, kIfx, selE_tt, selE_ff, E_tup, mkT, E_lst, mkL, E_lstS, mkS, E_sub, kSub, sub2, sub3_at, sub4, E_slc, kSlc1, kSlc2, slc2, slc3, ptOf_at, ptK_t, ptK_f, isNilE, E_rev, revV, rev3_t, rev3_l, E_nil, E_own, ownV, E_call, kCall_at, E_bi, kBi, bi3, E_isin, kIsin, isin3, E_lc, kLc_at, lcEnd_t, lcEnd_f, E_mth, kMth_at, selM_t, Es_nil, Es_cons, kEs, kEs2, I_val, I_1, I_2, kI2, I_3, kI3, kI3b, I_zip, kZip, E_lzip, kLz, kTurn, selT_tt, selT_ff, srcL, srcT, forS_fix, lcS_fix, bnd_k, ok_ok, ok_bnd, okK_at, out_at, outK_ret, outK_nx, backK_d, asD, rd, asDs, lift_some, tru, truD, intV, isTy, sG1, sG2, sG3, sG4, setPar, Option.bind_some, Option.map_some, List.set_cons_zero, List.set_cons_succ, List.getElem?_cons_zero, List.getElem?_cons_succ, dAll, List.length_cons, List.length_nil, Nat.zero_add, Nat.reduceAdd, Nat.reduceLeDiff, Nat.reduceLT, Nat.reduceMul, sz0, sz1, sz2, sz3, sz4, sz5, sy0, sy1, sy2, sy3, sy4, if_true, List.nil_append, List.cons_append, isLst, mthD, addI, subI, subL, subT, at0, at1, at2, at3, cLt, cLe, cGt, cGe, cEqI, cNeI, cEqS, cNeS, decide_true, decide_false, Int.reduceLT, Int.reduceLE, Int.reduceSub, Int.reduceAdd, Int.reduceNeg, Int.reduceToNat, Int.cast_ofNat_Int, Bool.not_true, Bool.not_false, keepD, wipeE, biLenL, biLenT, biAbs, biRepr, biMin, biMax, biTupL, biTupT, biLstL, biLstT, biIntI, biIntB, biAll, biAny, biSum, wback, and_true, true_and, beq_self_eq_true, Int.reduceBEq, e0, filmD, e1, pcD, hl]
  first | done | rfl | exact ⟨rfl, rfl⟩
/-- what the sources' functions need -/
structure SrcFn (cs : List D) (T : List FD) (W k : Nat) (len cut shr frm : Nat) (F : Fm) : Prop where
  len : ∀ st, callF cs T W k len [.d (filmD F)] st = .ok (.d (.int (total F))) st
  cut : ∀ n st, callF cs T W k cut [.d (filmD F), .d (.int n)] st = .ok (.d (.list ((places 0 0 n F).map plD))) st
  shr : ∀ (ps : List Pl) (st : Sto), (∀ x ∈ ps, F[x.j]? = some x.p ∧ 0 ≤ x.i ∧ x.i < x.p.1.m) → (ps.length = 1 ∨ ps.length = 2) → callF cs T W k shr [.d (filmD F), .d (.list (ps.map plD))] st = .ok (.d (.list (shares ps))) st
  frm : ∀ (x : Pl) (st : Sto), x.p ∈ F → 0 ≤ x.i → x.i < x.p.1.m → callF cs T W k frm [.d (ctD x.p.1), .d (.int x.i)] st = .ok (.d (.int (x.p.1.f + x.i * x.p.1.t))) st
theorem places_ok {F : Fm} {n : Int} : ∀ x ∈ places 0 0 n F, F[x.j]? = some x.p ∧ 0 ≤ x.i ∧ x.i < x.p.1.m := fun x hx => by
  obtain ⟨_, h1, h2, h3⟩ := places_at F 0 0 n x hx
  exact ⟨by simpa using h1, h2, h3⟩
theorem shares_len : ∀ {ps : List Pl}, (ps.length = 1 ∨ ps.length = 2) → (shares ps).length = ps.length
  | [], h => by simp at h
  | [_], _ => rfl
  | [_, _], _ => rfl
  | _ :: _ :: _ :: _, h => by simp at h
theorem srcRun {i len cut shr frm : Nat} {nm x0 x1 x2 x3 x4 x5 x6 : Str} (h : T[i]? = some ⟨nm, 2, [x0, x1, x2, x3, x4, x5, x6], bSrc len cut shr frm, true, false⟩) {F : Fm} (S : SrcFn cs T W k len cut shr frm F) {n : Int} (h0 : 0 ≤ n) (h1 : n < total F) (h2 : (places 0 0 n F).length = 1 ∨ (places 0 0 n F).length = 2) {st : Sto} :
    callF cs T W (k + 1) i [.d (filmD F), .d (.int n)] st = .ok (.d (.tuple (srcsL (places 0 0 n F) (shares (places 0 0 n F))))) st := by
  refine Ok.eq (okP h rfl rfl ?_)
  show Ok (outOf 0 (evSs cs (callF cs T W k) W (bSrc len cut shr frm) [some (.d (filmD F)), some (.d (.int n)), none, none, none, none, none] [])) _
  have p1 : ¬ n < 0 := by omega
  have p2 : ¬ total F ≤ n := by omega
  have sh := fun st => S.shr (places 0 0 n F) st places_ok h2
  have zz : ∀ st, zipOf true (.d (.list ((places 0 0 n F).map plD))) (.d (.list (shares (places 0 0 n F)))) st = .ok (.fix (pairsD ((places 0 0 n F).map plD) (shares (places 0 0 n F)))) st := fun st => zip_at rfl rfl fun _ => by rw [List.length_map, shares_len h2]
  unfold bSrc
  simp only [Ss_cons, Ss_nil, then_nx, then_ret, then_bk, then_ct, then_rtt, S_aug, aug_g, aug_add, aug_sub, S_rett, S_rais, S_tryx, E_isx, E_fld, I_enu, I_ezip, kEzip, I_chr, chr_at, E_callk, kCk1_at, calm_k, ok_calm, outK_rtt, S_expr, kNx, S_asg, S_par, S_put, kPut1_at, kPut2_at, S_dput, kDput1_at, kDput2_at, S_ifs, kIfs, selS_tt, selS_ff, S_for, kFor_at, S_ret, kRet, S_pass, S_brk, S_cnt, setTo, parTo, putTo, E_var, get_v, E_int, E_bl, E_non, E_str, E_cst, E_bin, kBin, bin2, bin3_at, bin4, E_neg, neg_v, E_nt, ntV, notB_t, notB_f, E_cmp, kCmp, cmp2, cmp3_at, cmp4, E_cmp2, kChain, chainC, chain3, chain4, selC_tt, selC_ff, E_and, kAnd, selA_tt, selA_ff, E_or, kOr, selO_tt, selO_ff, E_ifx, kIfx, selE_tt, selE_ff, E_tup, mkT, E_lst, mkL, E_lstS, mkS, E_sub, kSub, sub2, sub3_at, sub4, E_slc, kSlc1, kSlc2, slc2, slc3, ptOf_at, ptK_t, ptK_f, isNilE, E_rev, revV, rev3_t, rev3_l, E_nil, E_own, ownV, E_call, kCall_at, E_bi, kBi, bi3, E_isin, kIsin, isin3, E_lc, kLc_at, lcEnd_t, lcEnd_f, E_mth, kMth_at, selM_t, Es_nil, Es_cons, kEs, kEs2, I_val, I_1, I_2, kI2, I_3, kI3, kI3b, I_zip, kZip, E_lzip, kLz, kTurn, selT_tt, selT_ff, srcL, srcT, forS_fix, lcS_fix, bnd_k, ok_ok, ok_bnd, okK_at, out_at, outK_ret, outK_nx, backK_d, asD, rd, asDs, lift_some, tru, truD, intV, isTy, sG1, sG2, sG3, sG4, setPar, Option.bind_some, Option.map_some, List.set_cons_zero, List.set_cons_succ, List.getElem?_cons_zero, List.getElem?_cons_succ, dAll, List.length_cons, List.length_nil, Nat.zero_add, Nat.reduceAdd, Nat.reduceLeDiff, Nat.reduceLT, Nat.reduceMul, sz0, sz1, sz2, sz3, sz4, sz5, sy0, sy1, sy2, sy3, sy4, if_true, List.nil_append, List.cons_append, isLst, mthD, addI, subI, subL, subT, at0, at1, at2, at3, cLt, cLe, cGt, cGe, cEqI, cNeI, cEqS, cNeS, decide_true, decide_false, Int.reduceLT, Int.reduceLE, Int.reduceSub, Int.reduceAdd, Int.reduceNeg, Int.reduceToNat, Int.cast_ofNat_Int, Bool.not_true, Bool.not_false, keepD, wipeE, biLenL, biLenT, biAbs, biRepr, biMin, biMax, biTupL, biTupT, biLstL, biLstT, biIntI, biIntB, biAll, biAny, biSum, wback, and_true, true_and, beq_self_eq_true, Int.reduceBEq, p1, S.len, p2, S.cut, sh, zz]
  have ok := places_ok (F := F) (n := n)
  have lp : (places 0 0 n F).length ≤ 2 := by omega
  have ls := shares_len h2
  generalize places 0 0 n F = ps at ok lp ls ⊢
  generalize shares ps = ss at ls ⊢
  refine okFor (fun left env st => ∃ (ps' : List Pl) (ss' : List D) (acc : List D) (v4 v5 v6 : Option Vl), left = pairsD (ps'.map plD) ss' ∧ env = [some (.d (filmD F)), some (.d (.int n)), some (.d (.list (ps.map plD))), some (.r 0), v4, v5, v6] ∧ st = [.lst acc] ∧ acc ++ srcsL ps' ss' = srcsL ps ss ∧ acc.length + ps'.length ≤ 2 ∧ (∀ x ∈ ps', x ∈ ps) ∧ ss'.length = ps'.length)
    ⟨ps, ss, [], none, none, none, rfl, rfl, rfl, rfl, by simpa using lp, fun _ z => z, ls⟩ (fun x r env st ⟨ps', ss', acc, v4, v5, v6, e1, e2, e3, e4, e5, e6, e7⟩ => ?_) fun env st ⟨ps', ss', acc, v4, v5, v6, e1, e2, e3, e4, e5, e6, e7⟩ => ?_
  · subst e2 e3
    cases ps' with
    | nil => cases ss' <;> cases e1
    | cons p ps' =>
      cases ss' with
      | nil => simp at e7
      | cons s ss' =>
        cases e1
        simp only [List.length_cons] at e5
        have hz : acc.length < sizeLine := by have := sl1000; omega
        obtain ⟨o1, o2, o3⟩ := ok p (e6 p List.mem_cons_self)
        have e1 : atI (F.map pcD) ((p.j : Nat) : Int) = some (pcD p.p) := atM o1
        have fr1 := fun st => S.frm p st (List.mem_of_getElem? o1) o2 o3
        rw [turn_for (env' := [some (.d (filmD F)), some (.d (.int n)), some (.d (.list (ps.map plD))), some (.r 0), some (.d s), some (.d (.int (p.j : Nat))), some (.d (.int p.i))]) rfl]
        unfold bSrc_l0
        simp only [Ss_cons, Ss_nil, then_nx, then_ret, then_bk, then_ct, then_rtt, S_aug, aug_g, aug_add, aug_sub, S_rett, S_rais, S_tryx, E_isx, E_fld, I_enu, I_ezip, kEzip, I_chr, chr_at, E_callk, kCk1_at, calm_k, ok_calm, outK_rtt, S_expr, kNx, S_asg, S_par, S_put, kPut1_at, kPut2_at, S_dput, kDput1_at, kDput2_at, S_ifs, kIfs, selS_tt, selS_ff, S_for, kFor_at, S_ret, kRet, S_pass, S_brk, S_cnt, setTo, parTo, putTo, E_var, get_v, E_int, E_bl, E_non, E_str, E_cst, E_bin, kBin, bin2, bin3_at, bin4, E_neg, neg_v, E_nt, ntV, notB_t, notB_f, E_cmp, kCmp, cmp2, cmp3_at, cmp4, E_cmp2, kChain, chainC, chain3, chain4, selC_tt, selC_ff, E_and, kAnd, selA_tt, selA_ff, E_or, kOr, selO_tt, selO_ff, E_ifx, kIfx, selE_tt, selE_ff, E_tup, mkT, E_lst, mkL, E_lstS, mkS, E_sub, kSub, sub2, sub3_at, sub4, E_slc, kSlc1, kSlc2, slc2, slc3, ptOf_at, ptK_t, ptK_f, isNilE, E_rev, revV, rev3_t, rev3_l, E_nil, E_own, ownV, E_call, kCall_at, E_bi, kBi, bi3, E_isin, kIsin, isin3, E_lc, kLc_at, lcEnd_t, lcEnd_f, E_mth, kMth_at, selM_t, Es_nil, Es_cons, kEs, kEs2, I_val, I_1, I_2, kI2, I_3, kI3, kI3b, I_zip, kZip, E_lzip, kLz, kTurn, selT_tt, selT_ff, srcL, srcT, forS_fix, lcS_fix, bnd_k, ok_ok, ok_bnd, okK_at, out_at, outK_ret, outK_nx, backK_d, asD, rd, asDs, lift_some, tru, truD, intV, isTy, sG1, sG2, sG3, sG4, setPar, Option.bind_some, Option.map_some, List.set_cons_zero, List.set_cons_succ, List.getElem?_cons_zero, List.getElem?_cons_succ, dAll, List.length_cons, List.length_nil, Nat.zero_add, Nat.reduceAdd, Nat.reduceLeDiff, Nat.reduceLT, Nat.reduceMul, sz0, sz1, sz2, sz3, sz4, sz5, sy0, sy1, sy2, sy3, sy4, if_true, List.nil_append, List.cons_append, isLst, mthD, addI, subI, subL, subT, at0, at1, at2, at3, cLt, cLe, cGt, cGe, cEqI, cNeI, cEqS, cNeS, decide_true, decide_false, Int.reduceLT, Int.reduceLE, Int.reduceSub, Int.reduceAdd, Int.reduceNeg, Int.reduceToNat, Int.cast_ofNat_Int, Bool.not_true, Bool.not_false, keepD, wipeE, biLenL, biLenT, biAbs, biRepr, biMin, biMax, biTupL, biTupT, biLstL, biLstT, biIntI, biIntB, biAll, biAny, biSum, wback, and_true, true_and, beq_self_eq_true, Int.reduceBEq, hz, filmD, e1, pcD, fr1]
        exact ⟨ps', ss', acc ++ [srcD p s], _, _, _, rfl, rfl, rfl, by rw [← e4]; simp [srcsL], by simp; omega, fun x hx => e6 x (List.mem_cons_of_mem _ hx), by simpa using e7⟩
  · subst e2 e3
    cases ps' with
    | nil =>
      have e8 : srcsL [] ss' = [] := by cases ss' <;> rfl
      rw [e8, List.append_nil] at e4
      subst e4
      simp only [Ss_cons, Ss_nil, then_nx, then_ret, then_bk, then_ct, then_rtt, S_aug, aug_g, aug_add, aug_sub, S_rett, S_rais, S_tryx, E_isx, E_fld, I_enu, I_ezip, kEzip, I_chr, chr_at, E_callk, kCk1_at, calm_k, ok_calm, outK_rtt, S_expr, kNx, S_asg, S_par, S_put, kPut1_at, kPut2_at, S_dput, kDput1_at, kDput2_at, S_ifs, kIfs, selS_tt, selS_ff, S_for, kFor_at, S_ret, kRet, S_pass, S_brk, S_cnt, setTo, parTo, putTo, E_var, get_v, E_int, E_bl, E_non, E_str, E_cst, E_bin, kBin, bin2, bin3_at, bin4, E_neg, neg_v, E_nt, ntV, notB_t, notB_f, E_cmp, kCmp, cmp2, cmp3_at, cmp4, E_cmp2, kChain, chainC, chain3, chain4, selC_tt, selC_ff, E_and, kAnd, selA_tt, selA_ff, E_or, kOr, selO_tt, selO_ff, E_ifx, kIfx, selE_tt, selE_ff, E_tup, mkT, E_lst, mkL, E_lstS, mkS, E_sub, kSub, sub2, sub3_at, sub4, E_slc, kSlc1, kSlc2, slc2, slc3, ptOf_at, ptK_t, ptK_f, isNilE, E_rev, revV, rev3_t, rev3_l, E_nil, E_own, ownV, E_call, kCall_at, E_bi, kBi, bi3, E_isin, kIsin, isin3, E_lc, kLc_at, lcEnd_t, lcEnd_f, E_mth, kMth_at, selM_t, Es_nil, Es_cons, kEs, kEs2, I_val, I_1, I_2, kI2, I_3, kI3, kI3b, I_zip, kZip, E_lzip, kLz, kTurn, selT_tt, selT_ff, srcL, srcT, forS_fix, lcS_fix, bnd_k, ok_ok, ok_bnd, okK_at, out_at, outK_ret, outK_nx, backK_d, asD, rd, asDs, lift_some, tru, truD, intV, isTy, sG1, sG2, sG3, sG4, setPar, Option.bind_some, Option.map_some, List.set_cons_zero, List.set_cons_succ, List.getElem?_cons_zero, List.getElem?_cons_succ, dAll, List.length_cons, List.length_nil, Nat.zero_add, Nat.reduceAdd, Nat.reduceLeDiff, Nat.reduceLT, Nat.reduceMul, sz0, sz1, sz2, sz3, sz4, sz5, sy0, sy1, sy2, sy3, sy4, if_true, List.nil_append, List.cons_append, isLst, mthD, addI, subI, subL, subT, at0, at1, at2, at3, cLt, cLe, cGt, cGe, cEqI, cNeI, cEqS, cNeS, decide_true, decide_false, Int.reduceLT, Int.reduceLE, Int.reduceSub, Int.reduceAdd, Int.reduceNeg, Int.reduceToNat, Int.cast_ofNat_Int, Bool.not_true, Bool.not_false, keepD, wipeE, biLenL, biLenT, biAbs, biRepr, biMin, biMax, biTupL, biTupT, biLstL, biLstT, biIntI, biIntB, biAll, biAny, biSum, wback, and_true, true_and, beq_self_eq_true, Int.reduceBEq]
      first | done | rfl | exact ⟨rfl, rfl⟩
    | cons p ps' =>
      cases ss' with
      | nil => simp at e7
      | cons s ss' => cases e1
theorem srcRaise {i len cut shr frm : Nat} {nm x0 x1 x2 x3 x4 x5 x6 : Str} (h : T[i]? = some ⟨nm, 2, [x0, x1, x2, x3, x4, x5, x6], bSrc len cut shr frm, true, false⟩) {F : Fm} (hl : ∀ st, callF cs T W k len [.d (filmD F)] st = .ok (.d (.int (total F))) st) {n : Int} (hn : n < 0 ∨ total F ≤ n) {st : Sto} :
    callF cs T W (k + 1) i [.d (filmD F), .d (.int n)] st = .ex "NoNumber" [("number", .int n)] st := by
  refine xoP h rfl rfl ?_
  show Xo (evSs cs (callF cs T W k) W (bSrc len cut shr frm) [some (.d (filmD F)), some (.d (.int n)), none, none, none, none, none] []) _ _ _
  unfold bSrc
  rw [Ss_cons]
  refine xo_bnd ?_
  rw [S_ifs]
  refine xo_then ?_
  have e : tru (.d (.bool true)) = fun _ => some true := rfl
  have go : Xo (kIfs cs (callF cs T W k) W (.cons (.rais "NoNumber" ["number"] (.cons (.var 1) .nil)) .nil) .nil [some (.d (filmD F)), some (.d (.int n)), none, none, none, none, none] (.d (.bool true)) []) "NoNumber" [("number", .int n)] fun _ => True := by
    simp only [Ss_cons, Ss_nil, then_nx, then_ret, then_bk, then_ct, then_rtt, S_aug, aug_g, aug_add, aug_sub, S_rett, S_rais, S_tryx, E_isx, E_fld, I_enu, I_ezip, kEzip, I_chr, chr_at, E_callk, kCk1_at, calm_k, ok_calm, outK_rtt, S_expr, kNx, S_asg, S_par, S_put, kPut1_at, kPut2_at, S_dput, kDput1_at, kDput2_at, S_ifs, kIfs, selS_tt, selS_ff, S_for, kFor_at, S_ret, kRet, S_pass, S_brk, S_cnt, setTo, parTo, putTo, E_var, get_v, E_int, E_bl, E_non, E_str, E_cst, E_bin, kBin, bin2, bin3_at, bin4, E_neg, neg_v, E_nt, ntV, notB_t, notB_f, E_cmp, kCmp, cmp2, cmp3_at, cmp4, E_cmp2, kChain, chainC, chain3, chain4, selC_tt, selC_ff, E_and, kAnd, selA_tt, selA_ff, E_or, kOr, selO_tt, selO_ff, E_ifx, kIfx, selE_tt, selE_ff, E_tup, mkT, E_lst, mkL, E_lstS, mkS, E_sub, kSub, sub2, sub3_at, sub4, E_slc, kSlc1, kSlc2, slc2, slc3, ptOf_at, ptK_t, ptK_f, isNilE, E_rev, revV, rev3_t, rev3_l, E_nil, E_own, ownV, E_call, kCall_at, E_bi, kBi, bi3, E_isin, kIsin, isin3, E_lc, kLc_at, lcEnd_t, lcEnd_f, E_mth, kMth_at, selM_t, Es_nil, Es_cons, kEs, kEs2, I_val, I_1, I_2, kI2, I_3, kI3, kI3b, I_zip, kZip, E_lzip, kLz, kTurn, selT_tt, selT_ff, srcL, srcT, forS_fix, lcS_fix, bnd_k, ok_ok, ok_bnd, okK_at, out_at, outK_ret, outK_nx, backK_d, asD, rd, asDs, lift_some, tru, truD, intV, isTy, sG1, sG2, sG3, sG4, setPar, Option.bind_some, Option.map_some, List.set_cons_zero, List.set_cons_succ, List.getElem?_cons_zero, List.getElem?_cons_succ, dAll, List.length_cons, List.length_nil, Nat.zero_add, Nat.reduceAdd, Nat.reduceLeDiff, Nat.reduceLT, Nat.reduceMul, sz0, sz1, sz2, sz3, sz4, sz5, sy0, sy1, sy2, sy3, sy4, if_true, List.nil_append, List.cons_append, isLst, mthD, addI, subI, subL, subT, at0, at1, at2, at3, cLt, cLe, cGt, cGe, cEqI, cNeI, cEqS, cNeS, decide_true, decide_false, Int.reduceLT, Int.reduceLE, Int.reduceSub, Int.reduceAdd, Int.reduceNeg, Int.reduceToNat, Int.cast_ofNat_Int, Bool.not_true, Bool.not_false, keepD, wipeE, biLenL, biLenT, biAbs, biRepr, biMin, biMax, biTupL, biTupT, biLstL, biLstT, biIntI, biIntB, biAll, biAny, biSum, wback, and_true, true_and, beq_self_eq_true, Int.reduceBEq]
    rw [rais_at rfl rfl]
    exact xo_bnd (xo_at trivial)
  by_cases p1 : n < 0
  · simp only [Ss_cons, Ss_nil, then_nx, then_ret, then_bk, then_ct, then_rtt, S_aug, aug_g, aug_add, aug_sub, S_rett, S_rais, S_tryx, E_isx, E_fld, I_enu, I_ezip, kEzip, I_chr, chr_at, E_callk, kCk1_at, calm_k, ok_calm, outK_rtt, S_expr, kNx, S_asg, S_par, S_put, kPut1_at, kPut2_at, S_dput, kDput1_at, kDput2_at, S_ifs, kIfs, selS_tt, selS_ff, S_for, kFor_at, S_ret, kRet, S_pass, S_brk, S_cnt, setTo, parTo, putTo, E_var, get_v, E_int, E_bl, E_non, E_str, E_cst, E_bin, kBin, bin2, bin3_at, bin4, E_neg, neg_v, E_nt, ntV, notB_t, notB_f, E_cmp, kCmp, cmp2, cmp3_at, cmp4, E_cmp2, kChain, chainC, chain3, chain4, selC_tt, selC_ff, E_and, kAnd, selA_tt, selA_ff, E_or, kOr, selO_tt, selO_ff, E_ifx, kIfx, selE_tt, selE_ff, E_tup, mkT, E_lst, mkL, E_lstS, mkS, E_sub, kSub, sub2, sub3_at, sub4, E_slc, kSlc1, kSlc2, slc2, slc3, ptOf_at, ptK_t, ptK_f, isNilE, E_rev, revV, rev3_t, rev3_l, E_nil, E_own, ownV, E_call, kCall_at, E_bi, kBi, bi3, E_isin, kIsin, isin3, E_lc, kLc_at, lcEnd_t, lcEnd_f, E_mth, kMth_at, selM_t, Es_nil, Es_cons, kEs, kEs2, I_val, I_1, I_2, kI2, I_3, kI3, kI3b, I_zip, kZip, E_lzip, kLz, kTurn, selT_tt, selT_ff, srcL, srcT, forS_fix, lcS_fix, bnd_k, ok_ok, ok_bnd, okK_at, out_at, outK_ret, outK_nx, backK_d, asD, rd, asDs, lift_some, tru, truD, intV, isTy, sG1, sG2, sG3, sG4, setPar, Option.bind_some, Option.map_some, List.set_cons_zero, List.set_cons_succ, List.getElem?_cons_zero, List.getElem?_cons_succ, dAll, List.length_cons, List.length_nil, Nat.zero_add, Nat.reduceAdd, Nat.reduceLeDiff, Nat.reduceLT, Nat.reduceMul, sz0, sz1, sz2, sz3, sz4, sz5, sy0, sy1, sy2, sy3, sy4, if_true, List.nil_append, List.cons_append, isLst, mthD, addI, subI, subL, subT, at0, at1, at2, at3, cLt, cLe, cGt, cGe, cEqI, cNeI, cEqS, cNeS, decide_true, decide_false, Int.reduceLT, Int.reduceLE, Int.reduceSub, Int.reduceAdd, Int.reduceNeg, Int.reduceToNat, Int.cast_ofNat_Int, Bool.not_true, Bool.not_false, keepD, wipeE, biLenL, biLenT, biAbs, biRepr, biMin, biMax, biTupL, biTupT, biLstL, biLstT, biIntI, biIntB, biAll, biAny, biSum, wback, and_true, true_and, beq_self_eq_true, Int.reduceBEq, p1]
    exact go
  · have p2 : total F ≤ n := by omega
    simp only [Ss_cons, Ss_nil, then_nx, then_ret, then_bk, then_ct, then_rtt, S_aug, aug_g, aug_add, aug_sub, S_rett, S_rais, S_tryx, E_isx, E_fld, I_enu, I_ezip, kEzip, I_chr, chr_at, E_callk, kCk1_at, calm_k, ok_calm, outK_rtt, S_expr, kNx, S_asg, S_par, S_put, kPut1_at, kPut2_at, S_dput, kDput1_at, kDput2_at, S_ifs, kIfs, selS_tt, selS_ff, S_for, kFor_at, S_ret, kRet, S_pass, S_brk, S_cnt, setTo, parTo, putTo, E_var, get_v, E_int, E_bl, E_non, E_str, E_cst, E_bin, kBin, bin2, bin3_at, bin4, E_neg, neg_v, E_nt, ntV, notB_t, notB_f, E_cmp, kCmp, cmp2, cmp3_at, cmp4, E_cmp2, kChain, chainC, chain3, chain4, selC_tt, selC_ff, E_and, kAnd, selA_tt, selA_ff, E_or, kOr, selO_tt, selO_ff, E_ifx, kIfx, selE_tt, selE_ff, E_tup, mkT, E_lst, mkL, E_lstS, mkS, E_sub, kSub, sub2, sub3_at, sub4, E_slc, kSlc1, kSlc2, slc2, slc3, ptOf_at, ptK_t, ptK_f, isNilE, E_rev, revV, rev3_t, rev3_l, E_nil, E_own, ownV, E_call, kCall_at, E_bi, kBi, bi3, E_isin, kIsin, isin3, E_lc, kLc_at, lcEnd_t, lcEnd_f, E_mth, kMth_at, selM_t, Es_nil, Es_cons, kEs, kEs2, I_val, I_1, I_2, kI2, I_3, kI3, kI3b, I_zip, kZip, E_lzip, kLz, kTurn, selT_tt, selT_ff, srcL, srcT, forS_fix, lcS_fix, bnd_k, ok_ok, ok_bnd, okK_at, out_at, outK_ret, outK_nx, backK_d, asD, rd, asDs, lift_some, tru, truD, intV, isTy, sG1, sG2, sG3, sG4, setPar, Option.bind_some, Option.map_some, List.set_cons_zero, List.set_cons_succ, List.getElem?_cons_zero, List.getElem?_cons_succ, dAll, List.length_cons, List.length_nil, Nat.zero_add, Nat.reduceAdd, Nat.reduceLeDiff, Nat.reduceLT, Nat.reduceMul, sz0, sz1, sz2, sz3, sz4, sz5, sy0, sy1, sy2, sy3, sy4, if_true, List.nil_append, List.cons_append, isLst, mthD, addI, subI, subL, subT, at0, at1, at2, at3, cLt, cLe, cGt, cGe, cEqI, cNeI, cEqS, cNeS, decide_true, decide_false, Int.reduceLT, Int.reduceLE, Int.reduceSub, Int.reduceAdd, Int.reduceNeg, Int.reduceToNat, Int.cast_ofNat_Int, Bool.not_true, Bool.not_false, keepD, wipeE, biLenL, biLenT, biAbs, biRepr, biMin, biMax, biTupL, biTupT, biLstL, biLstT, biIntI, biIntB, biAll, biAny, biSum, wback, and_true, true_and, beq_self_eq_true, Int.reduceBEq, p1, hl, p2]
    exact go
theorem frcRun {i : Nat} {nm x y z u : Str} (hW : 2 ^ 8000 ≤ W) (h : T[i]? = some ⟨nm, 2, [x, y, z, u], bFrc, true, false⟩) (a b : Int) (st : Sto) (hb : 0 < b) (hs : b.natAbs < 2 ^ 100) :
    callF cs T W (k + 1) i [.d (.int a), .d (.int b)] st = .ok (.d (fr (Fr.low a b))) st := by
  refine callP h rfl rfl rfl (s := []) ?_
  show outOf 0 (evSs cs (callF cs T W k) W bFrc [some (.d (.int a)), some (.d (.int b)), none, none] []) = _
  have gs := gcd_small (a := a) (by omega) hs (by decide)
  have e := lowB_loop (cs := cs) (cl := callF cs T W k) (W0 := W) (A := .d (.int a)) (B := .d (.int b)) b.natAbs W a.natAbs (Nat.lt_of_lt_of_le (Nat.lt_of_lt_of_le hs (Nat.pow_le_pow_right (by decide) (by decide))) hW)
  have eg : ((Nat.gcd b.natAbs a.natAbs : Nat) : Int) = (Int.gcd a b : Int) := by rw [Nat.gcd_comm]; rfl
  rw [eg] at e
  unfold bFrc
  rw [evSs]
  simp only [evS, evE, evEs, List.getElem?_cons_zero, List.getElem?_cons_succ, bnd_ok, asDs, asD, rd, lift, biD, absI, setPar, List.set_cons_zero, List.set_cons_succ]
  rw [evSs, evS, e]
  have hn : ¬ b < 0 := by omega
  simp only [bnd_ok, evSs, evS, evE, evEs, List.getElem?_cons_zero, List.getElem?_cons_succ, asD, rd, lift, cmpD, Option.map_some, tru, Option.bind_some, truD, hn, decide_false, sel_ff, binD, gs, and_self, if_true, dAll, Option.map_some, outOf]
  simp [fr, Fr.low, hn, show (2 : Nat) ≤ sizeLine by decide]
end
end Ev
end
section
set_option maxRecDepth 10000
/-! films: a law's own sources -/
namespace Ev
open PySem L2
section
variable {cs : List D} {T : List FD} {W k : Nat}
theorem begins_at : ∀ (p : Fm) (b : Int) (q : Ct × Int) (l : Fm), (begins b (p ++ q :: l))[p.length]? = some (b + total p)
  | [], b, q, l => by simp [begins, total]
  | a :: p, b, q, l => by
    rw [List.cons_append, begins, List.length_cons, List.getElem?_cons_succ, begins_at p, total_cons]
    congr 1
    omega
def lsD (x : Pl) : D := srcD x (.tuple [.int 1, .int 1])
theorem cut43 (a b c d : D) : cutD [a, b, c, d] none (some 3) = [a, b, c] := rfl
theorem cat31 (a b c d : D) : binD .add (.tuple [a, b, c]) (.tuple [d]) = some (.tuple [a, b, c, d]) := catT (show 4 ≤ sizeLine from sz4)
theorem lsrRun {i sta frc : Nat} {nm x0 x1 x2 x3 x4 x5 x6 x7 x8 x9 : Str} (h : T[i]? = some ⟨nm, 2, [x0, x1, x2, x3, x4, x5, x6, x7, x8, x9], bLsr sta frc, true, false⟩) {F : Fm} (G : Gf F) {n : Int} (h2 : (places 0 0 n F).length = 1 ∨ (places 0 0 n F).length = 2) {st : Sto}
    (hs : ∀ st, callF cs T W k sta [.d (filmD F)] st = .ok (.d (.tuple [.list ((begins 0 F).map .int), .int (total F)])) st) (hf : ∀ (p : Ct × Int) (u : Int) (st : Sto), p ∈ F → callF cs T W k frc [.d (.int u), .d (.int (p.2 + 1))] st = .ok (.d (fr (Fr.low u (p.2 + 1)))) st) :
    callF cs T W (k + 1) i [.d (filmD F), .d (.int n)] st = .ok (.d (.tuple (srcsL (places 0 0 n F) (shares (places 0 0 n F))))) st := by
  refine Ok.eq (okP h rfl rfl ?_)
  show Ok (outOf 0 (evSs cs (callF cs T W k) W (bLsr sta frc) [some (.d (filmD F)), some (.d (.int n)), none, none, none, none, none, none, none, none] [])) _
  unfold bLsr
  have hl : F.length ≤ 100 := G.len
  have rg : ∀ st, rng1D (.d (.int ((F.map pcD).length : Nat))) st = .ok (.fix (rngs 0 F.length)) st := fun st => by rw [List.length_map]; exact rng1_nat (by omega)
  have lf : ∀ st : Sto, biD .len [filmD F] = some (.int ((F.map pcD).length : Nat)) := fun _ => rfl
  simp only [Ss_cons, Ss_nil, then_nx, then_ret, then_bk, then_ct, then_rtt, S_aug, aug_g, aug_add, aug_sub, S_rett, S_rais, S_tryx, E_isx, E_fld, I_enu, I_ezip, kEzip, I_chr, chr_at, E_callk, kCk1_at, calm_k, ok_calm, outK_rtt, S_expr, kNx, S_asg, S_par, S_put, kPut1_at, kPut2_at, S_dput, kDput1_at, kDput2_at, S_ifs, kIfs, selS_tt, selS_ff, S_for, kFor_at, S_ret, kRet, S_pass, S_brk, S_cnt, setTo, parTo, putTo, E_var, get_v, E_int, E_bl, E_non, E_str, E_cst, E_bin, kBin, bin2, bin3_at, bin4, E_neg, neg_v, E_nt, ntV, notB_t, notB_f, E_cmp, kCmp, cmp2, cmp3_at, cmp4, E_cmp2, kChain, chainC, chain3, chain4, selC_tt, selC_ff, E_and, kAnd, selA_tt, selA_ff, E_or, kOr, selO_tt, selO_ff, E_ifx, kIfx, selE_tt, selE_ff, E_tup, mkT, E_lst, mkL, E_lstS, mkS, E_sub, kSub, sub2, sub3_at, sub4, E_slc, kSlc1, kSlc2, slc2, slc3, ptOf_at, ptK_t, ptK_f, isNilE, E_rev, revV, rev3_t, rev3_l, E_nil, E_own, ownV, E_call, kCall_at, E_bi, kBi, bi3, E_isin, kIsin, isin3, E_lc, kLc_at, lcEnd_t, lcEnd_f, E_mth, kMth_at, selM_t, Es_nil, Es_cons, kEs, kEs2, I_val, I_1, I_2, kI2, I_3, kI3, kI3b, I_zip, kZip, E_lzip, kLz, kTurn, selT_tt, selT_ff, srcL, srcT, forS_fix, lcS_fix, bnd_k, ok_ok, ok_bnd, okK_at, out_at, outK_ret, outK_nx, backK_d, asD, rd, asDs, lift_some, tru, truD, intV, isTy, sG1, sG2, sG3, sG4, setPar, Option.bind_some, Option.map_some, List.set_cons_zero, List.set_cons_succ, List.getElem?_cons_zero, List.getElem?_cons_succ, dAll, List.length_cons, List.length_nil, Nat.zero_add, Nat.reduceAdd, Nat.reduceLeDiff, Nat.reduceLT, Nat.reduceMul, sz0, sz1, sz2, sz3, sz4, sz5, sy0, sy1, sy2, sy3, sy4, if_true, List.nil_append, List.cons_append, isLst, mthD, addI, subI, subL, subT, at0, at1, at2, at3, cLt, cLe, cGt, cGe, cEqI, cNeI, cEqS, cNeS, decide_true, decide_false, Int.reduceLT, Int.reduceLE, Int.reduceSub, Int.reduceAdd, Int.reduceNeg, Int.reduceToNat, Int.cast_ofNat_Int, Bool.not_true, Bool.not_false, keepD, wipeE, biLenL, biLenT, biAbs, biRepr, biMin, biMax, biTupL, biTupT, biLstL, biLstT, biIntI, biIntB, biAll, biAny, biSum, wback, and_true, true_and, beq_self_eq_true, Int.reduceBEq, hs, lf [], rg]
  refine okFor (fun left env st => ∃ (p l : Fm) (acc : List D) (v2 v8 v9 : Option Vl), F = p ++ l ∧ left = rngs (p.length : Nat) l.length ∧ env = [some (.d (filmD F)), some (.d (.int n)), v2, none, some (.d (.list ((begins 0 F).map .int))), some (.r 0), none, none, v8, v9] ∧ st = [.lst acc] ∧ acc ++ (places p.length (total p) n l).map lsD = (places 0 0 n F).map lsD ∧ acc.length + l.length ≤ 100)
    ⟨[], F, [], none, none, none, rfl, rfl, rfl, rfl, rfl, by simpa using hl⟩ (fun x r env st ⟨p, l, acc, v2, v8, v9, e1, e2, e3, e4, e5, e6⟩ => ?_) fun env st ⟨p, l, acc, v2, v8, v9, e1, e2, e3, e4, e5, e6⟩ => ?_
  · subst e3 e4
    cases l with
    | nil => cases e2
    | cons q l =>
      cases e2
      simp only [List.length_cons] at e6
      have hz : acc.length < sizeLine := by have := sl1000; omega
      have a1 : atI (F.map pcD) ((p.length : Nat) : Int) = some (pcD q) := atM (by rw [e1]; simp)
      have a2 : atI ((begins 0 F).map PyData.int) ((p.length : Nat) : Int) = some (.int (total p)) := by
        have := atM (d := PyData.int) (begins_at p 0 q l)
        rw [e1]
        rwa [Int.zero_add] at this
      have sm := G.sm q (by rw [e1]; simp)
      have nx : ((p.length : Nat) : Int) + 1 = (((p ++ [q]).length : Nat) : Int) := by simp
      rw [turn_for (env' := [some (.d (filmD F)), some (.d (.int n)), some (.d (.int (p.length : Nat))), none, some (.d (.list ((begins 0 F).map .int))), some (.r 0), none, none, v8, v9]) rfl]
      unfold bLsr_l0
      rw [places_cons] at e5
      have tp : total (p ++ [q]) = total p + (q.1.m - q.2) := total_snoc p q
      have lp : (p ++ [q]).length = p.length + 1 := by simp
      by_cases c1 : 0 ≤ n - total p
      · by_cases c2 : n - total p < q.1.m
        · rw [if_pos ⟨c1, c2⟩] at e5
          simp only [Ss_cons, Ss_nil, then_nx, then_ret, then_bk, then_ct, then_rtt, S_aug, aug_g, aug_add, aug_sub, S_rett, S_rais, S_tryx, E_isx, E_fld, I_enu, I_ezip, kEzip, I_chr, chr_at, E_callk, kCk1_at, calm_k, ok_calm, outK_rtt, S_expr, kNx, S_asg, S_par, S_put, kPut1_at, kPut2_at, S_dput, kDput1_at, kDput2_at, S_ifs, kIfs, selS_tt, selS_ff, S_for, kFor_at, S_ret, kRet, S_pass, S_brk, S_cnt, setTo, parTo, putTo, E_var, get_v, E_int, E_bl, E_non, E_str, E_cst, E_bin, kBin, bin2, bin3_at, bin4, E_neg, neg_v, E_nt, ntV, notB_t, notB_f, E_cmp, kCmp, cmp2, cmp3_at, cmp4, E_cmp2, kChain, chainC, chain3, chain4, selC_tt, selC_ff, E_and, kAnd, selA_tt, selA_ff, E_or, kOr, selO_tt, selO_ff, E_ifx, kIfx, selE_tt, selE_ff, E_tup, mkT, E_lst, mkL, E_lstS, mkS, E_sub, kSub, sub2, sub3_at, sub4, E_slc, kSlc1, kSlc2, slc2, slc3, ptOf_at, ptK_t, ptK_f, isNilE, E_rev, revV, rev3_t, rev3_l, E_nil, E_own, ownV, E_call, kCall_at, E_bi, kBi, bi3, E_isin, kIsin, isin3, E_lc, kLc_at, lcEnd_t, lcEnd_f, E_mth, kMth_at, selM_t, Es_nil, Es_cons, kEs, kEs2, I_val, I_1, I_2, kI2, I_3, kI3, kI3b, I_zip, kZip, E_lzip, kLz, kTurn, selT_tt, selT_ff, srcL, srcT, forS_fix, lcS_fix, bnd_k, ok_ok, ok_bnd, okK_at, out_at, outK_ret, outK_nx, backK_d, asD, rd, asDs, lift_some, tru, truD, intV, isTy, sG1, sG2, sG3, sG4, setPar, Option.bind_some, Option.map_some, List.set_cons_zero, List.set_cons_succ, List.getElem?_cons_zero, List.getElem?_cons_succ, dAll, List.length_cons, List.length_nil, Nat.zero_add, Nat.reduceAdd, Nat.reduceLeDiff, Nat.reduceLT, Nat.reduceMul, sz0, sz1, sz2, sz3, sz4, sz5, sy0, sy1, sy2, sy3, sy4, if_true, List.nil_append, List.cons_append, isLst, mthD, addI, subI, subL, subT, at0, at1, at2, at3, cLt, cLe, cGt, cGe, cEqI, cNeI, cEqS, cNeS, decide_true, decide_false, Int.reduceLT, Int.reduceLE, Int.reduceSub, Int.reduceAdd, Int.reduceNeg, Int.reduceToNat, Int.cast_ofNat_Int, Bool.not_true, Bool.not_false, keepD, wipeE, biLenL, biLenT, biAbs, biRepr, biMin, biMax, biTupL, biTupT, biLstL, biLstT, biIntI, biIntB, biAll, biAny, biSum, wback, and_true, true_and, beq_self_eq_true, Int.reduceBEq, hz, filmD, a1, a2, pcD, ctD, c1, c2, mulI _ _ (mul_small (a := n - total p) (b := q.1.t) (by rw [pow64]; omega) (by rw [pow64]; omega))]
          exact ⟨p ++ [q], l, acc ++ [lsD ⟨p.length, n - total p, q⟩], _, _, _, by rw [e1]; simp, by rw [nx], rfl, rfl, by rw [tp, lp, ← e5]; simp, by simp; omega⟩
        · rw [if_neg fun z => c2 z.2] at e5
          simp only [Ss_cons, Ss_nil, then_nx, then_ret, then_bk, then_ct, then_rtt, S_aug, aug_g, aug_add, aug_sub, S_rett, S_rais, S_tryx, E_isx, E_fld, I_enu, I_ezip, kEzip, I_chr, chr_at, E_callk, kCk1_at, calm_k, ok_calm, outK_rtt, S_expr, kNx, S_asg, S_par, S_put, kPut1_at, kPut2_at, S_dput, kDput1_at, kDput2_at, S_ifs, kIfs, selS_tt, selS_ff, S_for, kFor_at, S_ret, kRet, S_pass, S_brk, S_cnt, setTo, parTo, putTo, E_var, get_v, E_int, E_bl, E_non, E_str, E_cst, E_bin, kBin, bin2, bin3_at, bin4, E_neg, neg_v, E_nt, ntV, notB_t, notB_f, E_cmp, kCmp, cmp2, cmp3_at, cmp4, E_cmp2, kChain, chainC, chain3, chain4, selC_tt, selC_ff, E_and, kAnd, selA_tt, selA_ff, E_or, kOr, selO_tt, selO_ff, E_ifx, kIfx, selE_tt, selE_ff, E_tup, mkT, E_lst, mkL, E_lstS, mkS, E_sub, kSub, sub2, sub3_at, sub4, E_slc, kSlc1, kSlc2, slc2, slc3, ptOf_at, ptK_t, ptK_f, isNilE, E_rev, revV, rev3_t, rev3_l, E_nil, E_own, ownV, E_call, kCall_at, E_bi, kBi, bi3, E_isin, kIsin, isin3, E_lc, kLc_at, lcEnd_t, lcEnd_f, E_mth, kMth_at, selM_t, Es_nil, Es_cons, kEs, kEs2, I_val, I_1, I_2, kI2, I_3, kI3, kI3b, I_zip, kZip, E_lzip, kLz, kTurn, selT_tt, selT_ff, srcL, srcT, forS_fix, lcS_fix, bnd_k, ok_ok, ok_bnd, okK_at, out_at, outK_ret, outK_nx, backK_d, asD, rd, asDs, lift_some, tru, truD, intV, isTy, sG1, sG2, sG3, sG4, setPar, Option.bind_some, Option.map_some, List.set_cons_zero, List.set_cons_succ, List.getElem?_cons_zero, List.getElem?_cons_succ, dAll, List.length_cons, List.length_nil, Nat.zero_add, Nat.reduceAdd, Nat.reduceLeDiff, Nat.reduceLT, Nat.reduceMul, sz0, sz1, sz2, sz3, sz4, sz5, sy0, sy1, sy2, sy3, sy4, if_true, List.nil_append, List.cons_append, isLst, mthD, addI, subI, subL, subT, at0, at1, at2, at3, cLt, cLe, cGt, cGe, cEqI, cNeI, cEqS, cNeS, decide_true, decide_false, Int.reduceLT, Int.reduceLE, Int.reduceSub, Int.reduceAdd, Int.reduceNeg, Int.reduceToNat, Int.cast_ofNat_Int, Bool.not_true, Bool.not_false, keepD, wipeE, biLenL, biLenT, biAbs, biRepr, biMin, biMax, biTupL, biTupT, biLstL, biLstT, biIntI, biIntB, biAll, biAny, biSum, wback, and_true, true_and, beq_self_eq_true, Int.reduceBEq, hz, filmD, a1, a2, pcD, ctD, c1, c2]
          exact ⟨p ++ [q], l, acc, _, _, _, by rw [e1]; simp, by rw [nx], rfl, rfl, by rw [tp, lp, ← e5]; simp, by omega⟩
      · rw [if_neg fun z => c1 z.1] at e5
        simp only [Ss_cons, Ss_nil, then_nx, then_ret, then_bk, then_ct, then_rtt, S_aug, aug_g, aug_add, aug_sub, S_rett, S_rais, S_tryx, E_isx, E_fld, I_enu, I_ezip, kEzip, I_chr, chr_at, E_callk, kCk1_at, calm_k, ok_calm, outK_rtt, S_expr, kNx, S_asg, S_par, S_put, kPut1_at, kPut2_at, S_dput, kDput1_at, kDput2_at, S_ifs, kIfs, selS_tt, selS_ff, S_for, kFor_at, S_ret, kRet, S_pass, S_brk, S_cnt, setTo, parTo, putTo, E_var, get_v, E_int, E_bl, E_non, E_str, E_cst, E_bin, kBin, bin2, bin3_at, bin4, E_neg, neg_v, E_nt, ntV, notB_t, notB_f, E_cmp, kCmp, cmp2, cmp3_at, cmp4, E_cmp2, kChain, chainC, chain3, chain4, selC_tt, selC_ff, E_and, kAnd, selA_tt, selA_ff, E_or, kOr, selO_tt, selO_ff, E_ifx, kIfx, selE_tt, selE_ff, E_tup, mkT, E_lst, mkL, E_lstS, mkS, E_sub, kSub, sub2, sub3_at, sub4, E_slc, kSlc1, kSlc2, slc2, slc3, ptOf_at, ptK_t, ptK_f, isNilE, E_rev, revV, rev3_t, rev3_l, E_nil, E_own, ownV, E_call, kCall_at, E_bi, kBi, bi3, E_isin, kIsin, isin3, E_lc, kLc_at, lcEnd_t, lcEnd_f, E_mth, kMth_at, selM_t, Es_nil, Es_cons, kEs, kEs2, I_val, I_1, I_2, kI2, I_3, kI3, kI3b, I_zip, kZip, E_lzip, kLz, kTurn, selT_tt, selT_ff, srcL, srcT, forS_fix, lcS_fix, bnd_k, ok_ok, ok_bnd, okK_at, out_at, outK_ret, outK_nx, backK_d, asD, rd, asDs, lift_some, tru, truD, intV, isTy, sG1, sG2, sG3, sG4, setPar, Option.bind_some, Option.map_some, List.set_cons_zero, List.set_cons_succ, List.getElem?_cons_zero, List.getElem?_cons_succ, dAll, List.length_cons, List.length_nil, Nat.zero_add, Nat.reduceAdd, Nat.reduceLeDiff, Nat.reduceLT, Nat.reduceMul, sz0, sz1, sz2, sz3, sz4, sz5, sy0, sy1, sy2, sy3, sy4, if_true, List.nil_append, List.cons_append, isLst, mthD, addI, subI, subL, subT, at0, at1, at2, at3, cLt, cLe, cGt, cGe, cEqI, cNeI, cEqS, cNeS, decide_true, decide_false, Int.reduceLT, Int.reduceLE, Int.reduceSub, Int.reduceAdd, Int.reduceNeg, Int.reduceToNat, Int.cast_ofNat_Int, Bool.not_true, Bool.not_false, keepD, wipeE, biLenL, biLenT, biAbs, biRepr, biMin, biMax, biTupL, biTupT, biLstL, biLstT, biIntI, biIntB, biAll, biAny, biSum, wback, and_true, true_and, beq_self_eq_true, Int.reduceBEq, hz, filmD, a1, a2, pcD, ctD, c1]
        exact ⟨p ++ [q], l, acc, _, _, _, by rw [e1]; simp, by rw [nx], rfl, rfl, by rw [tp, lp, ← e5]; simp, by omega⟩
  · subst e3 e4
    cases l with
    | cons q l => cases e2
    | nil =>
      simp only [places, List.map_nil, List.append_nil] at e5
      subst e5
      have ok := places_ok (F := F) (n := n)
      revert h2 ok
      match places 0 0 n F with
      | [] => intro h2; simp at h2
      | _ :: _ :: _ :: _ => intro h2; simp at h2
      | [x] =>
        intro h2 ok
        simp only [Ss_cons, Ss_nil, then_nx, then_ret, then_bk, then_ct, then_rtt, S_aug, aug_g, aug_add, aug_sub, S_rett, S_rais, S_tryx, E_isx, E_fld, I_enu, I_ezip, kEzip, I_chr, chr_at, E_callk, kCk1_at, calm_k, ok_calm, outK_rtt, S_expr, kNx, S_asg, S_par, S_put, kPut1_at, kPut2_at, S_dput, kDput1_at, kDput2_at, S_ifs, kIfs, selS_tt, selS_ff, S_for, kFor_at, S_ret, kRet, S_pass, S_brk, S_cnt, setTo, parTo, putTo, E_var, get_v, E_int, E_bl, E_non, E_str, E_cst, E_bin, kBin, bin2, bin3_at, bin4, E_neg, neg_v, E_nt, ntV, notB_t, notB_f, E_cmp, kCmp, cmp2, cmp3_at, cmp4, E_cmp2, kChain, chainC, chain3, chain4, selC_tt, selC_ff, E_and, kAnd, selA_tt, selA_ff, E_or, kOr, selO_tt, selO_ff, E_ifx, kIfx, selE_tt, selE_ff, E_tup, mkT, E_lst, mkL, E_lstS, mkS, E_sub, kSub, sub2, sub3_at, sub4, E_slc, kSlc1, kSlc2, slc2, slc3, ptOf_at, ptK_t, ptK_f, isNilE, E_rev, revV, rev3_t, rev3_l, E_nil, E_own, ownV, E_call, kCall_at, E_bi, kBi, bi3, E_isin, kIsin, isin3, E_lc, kLc_at, lcEnd_t, lcEnd_f, E_mth, kMth_at, selM_t, Es_nil, Es_cons, kEs, kEs2, I_val, I_1, I_2, kI2, I_3, kI3, kI3b, I_zip, kZip, E_lzip, kLz, kTurn, selT_tt, selT_ff, srcL, srcT, forS_fix, lcS_fix, bnd_k, ok_ok, ok_bnd, okK_at, out_at, outK_ret, outK_nx, backK_d, asD, rd, asDs, lift_some, tru, truD, intV, isTy, sG1, sG2, sG3, sG4, setPar, Option.bind_some, Option.map_some, List.set_cons_zero, List.set_cons_succ, List.getElem?_cons_zero, List.getElem?_cons_succ, dAll, List.length_cons, List.length_nil, Nat.zero_add, Nat.reduceAdd, Nat.reduceLeDiff, Nat.reduceLT, Nat.reduceMul, sz0, sz1, sz2, sz3, sz4, sz5, sy0, sy1, sy2, sy3, sy4, if_true, List.nil_append, List.cons_append, isLst, mthD, addI, subI, subL, subT, at0, at1, at2, at3, cLt, cLe, cGt, cGe, cEqI, cNeI, cEqS, cNeS, decide_true, decide_false, Int.reduceLT, Int.reduceLE, Int.reduceSub, Int.reduceAdd, Int.reduceNeg, Int.reduceToNat, Int.cast_ofNat_Int, Bool.not_true, Bool.not_false, keepD, wipeE, biLenL, biLenT, biAbs, biRepr, biMin, biMax, biTupL, biTupT, biLstL, biLstT, biIntI, biIntB, biAll, biAny, biSum, wback, and_true, true_and, beq_self_eq_true, Int.reduceBEq, List.map_cons, List.map_nil]
        first | done | rfl | exact ⟨rfl, rfl⟩
      | [x, y] =>
        intro h2 ok
        obtain ⟨o1, _, _⟩ := ok x (by simp)
        have a1 : atI (F.map pcD) ((x.j : Nat) : Int) = some (pcD x.p) := atM o1
        have hp : x.p ∈ F := List.mem_of_getElem? o1
        have f1 := fun u st => hf x.p u st hp
        unfold bLsr_c1
        simp only [Ss_cons, Ss_nil, then_nx, then_ret, then_bk, then_ct, then_rtt, S_aug, aug_g, aug_add, aug_sub, S_rett, S_rais, S_tryx, E_isx, E_fld, I_enu, I_ezip, kEzip, I_chr, chr_at, E_callk, kCk1_at, calm_k, ok_calm, outK_rtt, S_expr, kNx, S_asg, S_par, S_put, kPut1_at, kPut2_at, S_dput, kDput1_at, kDput2_at, S_ifs, kIfs, selS_tt, selS_ff, S_for, kFor_at, S_ret, kRet, S_pass, S_brk, S_cnt, setTo, parTo, putTo, E_var, get_v, E_int, E_bl, E_non, E_str, E_cst, E_bin, kBin, bin2, bin3_at, bin4, E_neg, neg_v, E_nt, ntV, notB_t, notB_f, E_cmp, kCmp, cmp2, cmp3_at, cmp4, E_cmp2, kChain, chainC, chain3, chain4, selC_tt, selC_ff, E_and, kAnd, selA_tt, selA_ff, E_or, kOr, selO_tt, selO_ff, E_ifx, kIfx, selE_tt, selE_ff, E_tup, mkT, E_lst, mkL, E_lstS, mkS, E_sub, kSub, sub2, sub3_at, sub4, E_slc, kSlc1, kSlc2, slc2, slc3, ptOf_at, ptK_t, ptK_f, isNilE, E_rev, revV, rev3_t, rev3_l, E_nil, E_own, ownV, E_call, kCall_at, E_bi, kBi, bi3, E_isin, kIsin, isin3, E_lc, kLc_at, lcEnd_t, lcEnd_f, E_mth, kMth_at, selM_t, Es_nil, Es_cons, kEs, kEs2, I_val, I_1, I_2, kI2, I_3, kI3, kI3b, I_zip, kZip, E_lzip, kLz, kTurn, selT_tt, selT_ff, srcL, srcT, forS_fix, lcS_fix, bnd_k, ok_ok, ok_bnd, okK_at, out_at, outK_ret, outK_nx, backK_d, asD, rd, asDs, lift_some, tru, truD, intV, isTy, sG1, sG2, sG3, sG4, setPar, Option.bind_some, Option.map_some, List.set_cons_zero, List.set_cons_succ, List.getElem?_cons_zero, List.getElem?_cons_succ, dAll, List.length_cons, List.length_nil, Nat.zero_add, Nat.reduceAdd, Nat.reduceLeDiff, Nat.reduceLT, Nat.reduceMul, sz0, sz1, sz2, sz3, sz4, sz5, sy0, sy1, sy2, sy3, sy4, if_true, List.nil_append, List.cons_append, isLst, mthD, addI, subI, subL, subT, at0, at1, at2, at3, cLt, cLe, cGt, cGe, cEqI, cNeI, cEqS, cNeS, decide_true, decide_false, Int.reduceLT, Int.reduceLE, Int.reduceSub, Int.reduceAdd, Int.reduceNeg, Int.reduceToNat, Int.cast_ofNat_Int, Bool.not_true, Bool.not_false, keepD, wipeE, biLenL, biLenT, biAbs, biRepr, biMin, biMax, biTupL, biTupT, biLstL, biLstT, biIntI, biIntB, biAll, biAny, biSum, wback, and_true, true_and, beq_self_eq_true, Int.reduceBEq, List.map_cons, List.map_nil, lsD, srcD, filmD, a1, pcD, f1, rng1_ok (j := 2) (by decide) (by decide), rngs, lcT_at, lcT_some, Lc_nil, Lc_cons, lcK_some, lcG_t, lcK_none, forT_at, forT_some, For_nil, For_cons, forK_nx, forK_ct, forK_bk, forK_ret, forK_rtt, slcT, cut43, cat31]
        first | done | rfl | exact ⟨rfl, rfl⟩
end
end Ev
end
section
set_option maxRecDepth 10000
/-! films: the laws' draws of them -/
namespace Ev
open PySem L2
/-- a cut as it is drawn -/
structure Gc (pool : List Str) (c : Ct) : Prop where
  s : c.s ∈ pool
  m0 : 1 ≤ c.m
  m1 : c.m ≤ 9
  f0 : 0 ≤ c.f
  f1 : c.f ≤ 17
  t : c.t = 1 ∨ c.t = -1
def FitP : Int → Fm → Int → Prop
  | a, [], a' => a = a'
  | a, p :: r, a' => 0 ≤ a ∧ a ≤ p.1.m ∧ 0 ≤ p.2 ∧ p.2 ≤ p.1.m - a ∧ FitP p.2 r a'
theorem FitP.snoc {q : Ct} {f : Int} : ∀ {P : Fm} {a a' : Int}, FitP a P a' → 0 ≤ a' → a' ≤ q.m → 0 ≤ f → f ≤ q.m - a' → FitP a (P ++ [(q, f)]) f
  | [], a, a', h, h1, h2, h3, h4 => by
    have e : a = a' := h
    subst e
    exact ⟨h1, h2, h3, h4, rfl⟩
  | p :: r, a, a', ⟨g1, g2, g3, g4, g5⟩, h1, h2, h3, h4 => ⟨g1, g2, g3, g4, g5.snoc h1 h2 h3 h4⟩
theorem FitP.fits : ∀ {P : Fm} {a : Int}, FitP a P 0 → Fits a P
  | [], _, _ => trivial
  | p :: r, a, ⟨g1, g2, g3, g4, g5⟩ => ⟨g1, g2, g3, g4, fun e => by subst e; exact g5, g5.fits⟩
section
variable {cs : List D} {T : List FD} {W k : Nat}
def poolD (pool : List Str) : D := .tuple (pool.map .str)
theorem str_pick {pool : List Str} {y : Int} (h0 : 0 ≤ y) (h1 : y < pool.length) : ∃ s, atI (pool.map PyData.str) y = some (.str s) ∧ s ∈ pool := by
  obtain ⟨v, e, hv⟩ := pickOk (xs := pool.map PyData.str) h0 (by simpa using h1)
  obtain ⟨s, hs, rfl⟩ := List.mem_map.mp hv
  exact ⟨s, e, hs⟩
theorem seven {y : Int} (h0 : 0 ≤ y) (h1 : y < 7) : ∃ m : Int, atI [PyData.int 1, .int 2, .int 3, .int 4, .int 5, .int 6, .int 9] y = some (.int m) ∧ 1 ≤ m ∧ m ≤ 9 := by
  obtain ⟨v, e, hv⟩ := pickOk (xs := [PyData.int 1, .int 2, .int 3, .int 4, .int 5, .int 6, .int 9]) h0 (by simpa using h1)
  simp only [List.mem_cons, List.not_mem_nil, or_false] at hv
  rcases hv with rfl | rfl | rfl | rfl | rfl | rfl | rfl
  · exact ⟨1, e, by decide, by decide⟩
  · exact ⟨2, e, by decide, by decide⟩
  · exact ⟨3, e, by decide, by decide⟩
  · exact ⟨4, e, by decide, by decide⟩
  · exact ⟨5, e, by decide, by decide⟩
  · exact ⟨6, e, by decide, by decide⟩
  · exact ⟨9, e, by decide, by decide⟩
theorem three {m z y : Int} (h0 : 0 ≤ y) (h1 : y < 3) (hm : 0 ≤ m) (z0 : 0 ≤ z) (z1 : z ≤ m) : ∃ f : Int, atI [PyData.int 0, .int m, .int z] y = some (.int f) ∧ 0 ≤ f ∧ f ≤ m := by
  obtain ⟨v, e, hv⟩ := pickOk (xs := [PyData.int 0, .int m, .int z]) h0 (by simpa using h1)
  simp only [List.mem_cons, List.not_mem_nil, or_false] at hv
  rcases hv with rfl | rfl | rfl
  · exact ⟨0, e, by omega, by omega⟩
  · exact ⟨m, e, by omega, by omega⟩
  · exact ⟨z, e, by omega, by omega⟩
theorem sz7 : (7 : Nat) ≤ sizeLine := by decide
theorem slcOk {i drw n : Nat} {nm nd x0 x1 x2 x3 x4 y0 y1 y2 y3 y4 y5 : Str} (h : T[i]? = some ⟨nm, 2, [x0, x1, x2, x3, x4], bSlc drw, false, false⟩) (hd : T[drw]? = some ⟨nd, 2, [y0, y1, y2, y3, y4, y5], bDrf, false, false⟩)
    {pool : List Str} (p0 : 0 < pool.length) (p1 : pool.length ≤ 1000) {o : Ob} {rest : Sto} {Q : Vl → Sto → Prop} (F : Fd (n + 4) o) (hQ : ∀ c o', Gc pool c → Fd n o' → Q (.d (ctD c)) (o' :: rest)) :
    Ok (callF cs T W (k + 2) i [.r 0, .d (poolD pool)] (o :: rest)) Q := by
  refine ok0 (xs := [poolD pool]) h rfl ?_
  show Ok (outOf 1 (evSs cs (callF cs T W (k + 1)) W (bSlc drw) [some (.r 0), some (.d (poolD pool)), none, none, none] [o])) _
  unfold bSlc
  simp only [Ss_cons, Ss_nil, then_nx, then_ret, then_bk, then_ct, then_rtt, S_aug, aug_g, aug_add, aug_sub, S_rett, S_rais, S_tryx, E_isx, E_fld, I_enu, I_ezip, kEzip, I_chr, chr_at, E_callk, kCk1_at, calm_k, ok_calm, outK_rtt, S_expr, kNx, S_asg, S_par, S_put, kPut1_at, kPut2_at, S_dput, kDput1_at, kDput2_at, S_ifs, kIfs, selS_tt, selS_ff, S_for, kFor_at, S_ret, kRet, S_pass, S_brk, S_cnt, setTo, parTo, putTo, E_var, get_v, E_int, E_bl, E_non, E_str, E_cst, E_bin, kBin, bin2, bin3_at, bin4, E_neg, neg_v, E_nt, ntV, notB_t, notB_f, E_cmp, kCmp, cmp2, cmp3_at, cmp4, E_cmp2, kChain, chainC, chain3, chain4, selC_tt, selC_ff, E_and, kAnd, selA_tt, selA_ff, E_or, kOr, selO_tt, selO_ff, E_ifx, kIfx, selE_tt, selE_ff, E_tup, mkT, E_lst, mkL, E_lstS, mkS, E_sub, kSub, sub2, sub3_at, sub4, E_slc, kSlc1, kSlc2, slc2, slc3, ptOf_at, ptK_t, ptK_f, isNilE, E_rev, revV, rev3_t, rev3_l, E_nil, E_own, ownV, E_call, kCall_at, E_bi, kBi, bi3, E_isin, kIsin, isin3, E_lc, kLc_at, lcEnd_t, lcEnd_f, E_mth, kMth_at, selM_t, Es_nil, Es_cons, kEs, kEs2, I_val, I_1, I_2, kI2, I_3, kI3, kI3b, I_zip, kZip, E_lzip, kLz, kTurn, selT_tt, selT_ff, srcL, srcT, forS_fix, lcS_fix, bnd_k, ok_ok, ok_bnd, okK_at, out_at, outK_ret, outK_nx, backK_d, asD, rd, asDs, lift_some, tru, truD, intV, isTy, sG1, sG2, sG3, sG4, setPar, Option.bind_some, Option.map_some, List.set_cons_zero, List.set_cons_succ, List.getElem?_cons_zero, List.getElem?_cons_succ, dAll, List.length_cons, List.length_nil, Nat.zero_add, Nat.reduceAdd, Nat.reduceLeDiff, Nat.reduceLT, Nat.reduceMul, sz0, sz1, sz2, sz3, sz4, sz5, sy0, sy1, sy2, sy3, sy4, if_true, List.nil_append, List.cons_append, isLst, mthD, addI, subI, subL, subT, at0, at1, at2, at3, cLt, cLe, cGt, cGe, cEqI, cNeI, cEqS, cNeS, decide_true, decide_false, Int.reduceLT, Int.reduceLE, Int.reduceSub, Int.reduceAdd, Int.reduceNeg, Int.reduceToNat, Int.cast_ofNat_Int, Bool.not_true, Bool.not_false, keepD, wipeE, biLenL, biLenT, biAbs, biRepr, biMin, biMax, biTupL, biTupT, biLstL, biLstT, biIntI, biIntB, biAll, biAny, biSum, wback, and_true, true_and, beq_self_eq_true, Int.reduceBEq, sz7]
  refine drawF (n := n + 3) hd F (by decide) (by decide) fun y1 o1 a1 b1 F1 => ?_
  obtain ⟨m, em, m0, m1⟩ := seven a1 b1
  simp only [Ss_cons, Ss_nil, then_nx, then_ret, then_bk, then_ct, then_rtt, S_aug, aug_g, aug_add, aug_sub, S_rett, S_rais, S_tryx, E_isx, E_fld, I_enu, I_ezip, kEzip, I_chr, chr_at, E_callk, kCk1_at, calm_k, ok_calm, outK_rtt, S_expr, kNx, S_asg, S_par, S_put, kPut1_at, kPut2_at, S_dput, kDput1_at, kDput2_at, S_ifs, kIfs, selS_tt, selS_ff, S_for, kFor_at, S_ret, kRet, S_pass, S_brk, S_cnt, setTo, parTo, putTo, E_var, get_v, E_int, E_bl, E_non, E_str, E_cst, E_bin, kBin, bin2, bin3_at, bin4, E_neg, neg_v, E_nt, ntV, notB_t, notB_f, E_cmp, kCmp, cmp2, cmp3_at, cmp4, E_cmp2, kChain, chainC, chain3, chain4, selC_tt, selC_ff, E_and, kAnd, selA_tt, selA_ff, E_or, kOr, selO_tt, selO_ff, E_ifx, kIfx, selE_tt, selE_ff, E_tup, mkT, E_lst, mkL, E_lstS, mkS, E_sub, kSub, sub2, sub3_at, sub4, E_slc, kSlc1, kSlc2, slc2, slc3, ptOf_at, ptK_t, ptK_f, isNilE, E_rev, revV, rev3_t, rev3_l, E_nil, E_own, ownV, E_call, kCall_at, E_bi, kBi, bi3, E_isin, kIsin, isin3, E_lc, kLc_at, lcEnd_t, lcEnd_f, E_mth, kMth_at, selM_t, Es_nil, Es_cons, kEs, kEs2, I_val, I_1, I_2, kI2, I_3, kI3, kI3b, I_zip, kZip, E_lzip, kLz, kTurn, selT_tt, selT_ff, srcL, srcT, forS_fix, lcS_fix, bnd_k, ok_ok, ok_bnd, okK_at, out_at, outK_ret, outK_nx, backK_d, asD, rd, asDs, lift_some, tru, truD, intV, isTy, sG1, sG2, sG3, sG4, setPar, Option.bind_some, Option.map_some, List.set_cons_zero, List.set_cons_succ, List.getElem?_cons_zero, List.getElem?_cons_succ, dAll, List.length_cons, List.length_nil, Nat.zero_add, Nat.reduceAdd, Nat.reduceLeDiff, Nat.reduceLT, Nat.reduceMul, sz0, sz1, sz2, sz3, sz4, sz5, sy0, sy1, sy2, sy3, sy4, if_true, List.nil_append, List.cons_append, isLst, mthD, addI, subI, subL, subT, at0, at1, at2, at3, cLt, cLe, cGt, cGe, cEqI, cNeI, cEqS, cNeS, decide_true, decide_false, Int.reduceLT, Int.reduceLE, Int.reduceSub, Int.reduceAdd, Int.reduceNeg, Int.reduceToNat, Int.cast_ofNat_Int, Bool.not_true, Bool.not_false, keepD, wipeE, biLenL, biLenT, biAbs, biRepr, biMin, biMax, biTupL, biTupT, biLstL, biLstT, biIntI, biIntB, biAll, biAny, biSum, wback, and_true, true_and, beq_self_eq_true, Int.reduceBEq, sz7, em]
  refine drawF (n := n + 2) hd F1 (by decide) (by decide) fun y2 o2 a2 b2 F2 => ?_
  simp only [Ss_cons, Ss_nil, then_nx, then_ret, then_bk, then_ct, then_rtt, S_aug, aug_g, aug_add, aug_sub, S_rett, S_rais, S_tryx, E_isx, E_fld, I_enu, I_ezip, kEzip, I_chr, chr_at, E_callk, kCk1_at, calm_k, ok_calm, outK_rtt, S_expr, kNx, S_asg, S_par, S_put, kPut1_at, kPut2_at, S_dput, kDput1_at, kDput2_at, S_ifs, kIfs, selS_tt, selS_ff, S_for, kFor_at, S_ret, kRet, S_pass, S_brk, S_cnt, setTo, parTo, putTo, E_var, get_v, E_int, E_bl, E_non, E_str, E_cst, E_bin, kBin, bin2, bin3_at, bin4, E_neg, neg_v, E_nt, ntV, notB_t, notB_f, E_cmp, kCmp, cmp2, cmp3_at, cmp4, E_cmp2, kChain, chainC, chain3, chain4, selC_tt, selC_ff, E_and, kAnd, selA_tt, selA_ff, E_or, kOr, selO_tt, selO_ff, E_ifx, kIfx, selE_tt, selE_ff, E_tup, mkT, E_lst, mkL, E_lstS, mkS, E_sub, kSub, sub2, sub3_at, sub4, E_slc, kSlc1, kSlc2, slc2, slc3, ptOf_at, ptK_t, ptK_f, isNilE, E_rev, revV, rev3_t, rev3_l, E_nil, E_own, ownV, E_call, kCall_at, E_bi, kBi, bi3, E_isin, kIsin, isin3, E_lc, kLc_at, lcEnd_t, lcEnd_f, E_mth, kMth_at, selM_t, Es_nil, Es_cons, kEs, kEs2, I_val, I_1, I_2, kI2, I_3, kI3, kI3b, I_zip, kZip, E_lzip, kLz, kTurn, selT_tt, selT_ff, srcL, srcT, forS_fix, lcS_fix, bnd_k, ok_ok, ok_bnd, okK_at, out_at, outK_ret, outK_nx, backK_d, asD, rd, asDs, lift_some, tru, truD, intV, isTy, sG1, sG2, sG3, sG4, setPar, Option.bind_some, Option.map_some, List.set_cons_zero, List.set_cons_succ, List.getElem?_cons_zero, List.getElem?_cons_succ, dAll, List.length_cons, List.length_nil, Nat.zero_add, Nat.reduceAdd, Nat.reduceLeDiff, Nat.reduceLT, Nat.reduceMul, sz0, sz1, sz2, sz3, sz4, sz5, sy0, sy1, sy2, sy3, sy4, if_true, List.nil_append, List.cons_append, isLst, mthD, addI, subI, subL, subT, at0, at1, at2, at3, cLt, cLe, cGt, cGe, cEqI, cNeI, cEqS, cNeS, decide_true, decide_false, Int.reduceLT, Int.reduceLE, Int.reduceSub, Int.reduceAdd, Int.reduceNeg, Int.reduceToNat, Int.cast_ofNat_Int, Bool.not_true, Bool.not_false, keepD, wipeE, biLenL, biLenT, biAbs, biRepr, biMin, biMax, biTupL, biTupT, biLstL, biLstT, biIntI, biIntB, biAll, biAny, biSum, wback, and_true, true_and, beq_self_eq_true, Int.reduceBEq]
  refine drawF (n := n + 1) hd F2 (by decide) (by decide) fun y3 o3 a3 b3 F3 => ?_
  have pl : biD .len [poolD pool] = some (.int (pool.length : Nat)) := by
    show some (PyData.int ((pool.map PyData.str).length : Nat)) = _
    rw [List.length_map]
  by_cases hy : (y3 == 0) = true
  · simp only [Ss_cons, Ss_nil, then_nx, then_ret, then_bk, then_ct, then_rtt, S_aug, aug_g, aug_add, aug_sub, S_rett, S_rais, S_tryx, E_isx, E_fld, I_enu, I_ezip, kEzip, I_chr, chr_at, E_callk, kCk1_at, calm_k, ok_calm, outK_rtt, S_expr, kNx, S_asg, S_par, S_put, kPut1_at, kPut2_at, S_dput, kDput1_at, kDput2_at, S_ifs, kIfs, selS_tt, selS_ff, S_for, kFor_at, S_ret, kRet, S_pass, S_brk, S_cnt, setTo, parTo, putTo, E_var, get_v, E_int, E_bl, E_non, E_str, E_cst, E_bin, kBin, bin2, bin3_at, bin4, E_neg, neg_v, E_nt, ntV, notB_t, notB_f, E_cmp, kCmp, cmp2, cmp3_at, cmp4, E_cmp2, kChain, chainC, chain3, chain4, selC_tt, selC_ff, E_and, kAnd, selA_tt, selA_ff, E_or, kOr, selO_tt, selO_ff, E_ifx, kIfx, selE_tt, selE_ff, E_tup, mkT, E_lst, mkL, E_lstS, mkS, E_sub, kSub, sub2, sub3_at, sub4, E_slc, kSlc1, kSlc2, slc2, slc3, ptOf_at, ptK_t, ptK_f, isNilE, E_rev, revV, rev3_t, rev3_l, E_nil, E_own, ownV, E_call, kCall_at, E_bi, kBi, bi3, E_isin, kIsin, isin3, E_lc, kLc_at, lcEnd_t, lcEnd_f, E_mth, kMth_at, selM_t, Es_nil, Es_cons, kEs, kEs2, I_val, I_1, I_2, kI2, I_3, kI3, kI3b, I_zip, kZip, E_lzip, kLz, kTurn, selT_tt, selT_ff, srcL, srcT, forS_fix, lcS_fix, bnd_k, ok_ok, ok_bnd, okK_at, out_at, outK_ret, outK_nx, backK_d, asD, rd, asDs, lift_some, tru, truD, intV, isTy, sG1, sG2, sG3, sG4, setPar, Option.bind_some, Option.map_some, List.set_cons_zero, List.set_cons_succ, List.getElem?_cons_zero, List.getElem?_cons_succ, dAll, List.length_cons, List.length_nil, Nat.zero_add, Nat.reduceAdd, Nat.reduceLeDiff, Nat.reduceLT, Nat.reduceMul, sz0, sz1, sz2, sz3, sz4, sz5, sy0, sy1, sy2, sy3, sy4, if_true, List.nil_append, List.cons_append, isLst, mthD, addI, subI, subL, subT, at0, at1, at2, at3, cLt, cLe, cGt, cGe, cEqI, cNeI, cEqS, cNeS, decide_true, decide_false, Int.reduceLT, Int.reduceLE, Int.reduceSub, Int.reduceAdd, Int.reduceNeg, Int.reduceToNat, Int.cast_ofNat_Int, Bool.not_true, Bool.not_false, keepD, wipeE, biLenL, biLenT, biAbs, biRepr, biMin, biMax, biTupL, biTupT, biLstL, biLstT, biIntI, biIntB, biAll, biAny, biSum, wback, and_true, true_and, beq_self_eq_true, Int.reduceBEq, hy, pl]
    refine drawF (n := n) hd F3 (by omega) (by omega) fun y4 o4 a4 b4 F4 => ?_
    obtain ⟨s, es, hs⟩ := str_pick a4 b4
    simp only [Ss_cons, Ss_nil, then_nx, then_ret, then_bk, then_ct, then_rtt, S_aug, aug_g, aug_add, aug_sub, S_rett, S_rais, S_tryx, E_isx, E_fld, I_enu, I_ezip, kEzip, I_chr, chr_at, E_callk, kCk1_at, calm_k, ok_calm, outK_rtt, S_expr, kNx, S_asg, S_par, S_put, kPut1_at, kPut2_at, S_dput, kDput1_at, kDput2_at, S_ifs, kIfs, selS_tt, selS_ff, S_for, kFor_at, S_ret, kRet, S_pass, S_brk, S_cnt, setTo, parTo, putTo, E_var, get_v, E_int, E_bl, E_non, E_str, E_cst, E_bin, kBin, bin2, bin3_at, bin4, E_neg, neg_v, E_nt, ntV, notB_t, notB_f, E_cmp, kCmp, cmp2, cmp3_at, cmp4, E_cmp2, kChain, chainC, chain3, chain4, selC_tt, selC_ff, E_and, kAnd, selA_tt, selA_ff, E_or, kOr, selO_tt, selO_ff, E_ifx, kIfx, selE_tt, selE_ff, E_tup, mkT, E_lst, mkL, E_lstS, mkS, E_sub, kSub, sub2, sub3_at, sub4, E_slc, kSlc1, kSlc2, slc2, slc3, ptOf_at, ptK_t, ptK_f, isNilE, E_rev, revV, rev3_t, rev3_l, E_nil, E_own, ownV, E_call, kCall_at, E_bi, kBi, bi3, E_isin, kIsin, isin3, E_lc, kLc_at, lcEnd_t, lcEnd_f, E_mth, kMth_at, selM_t, Es_nil, Es_cons, kEs, kEs2, I_val, I_1, I_2, kI2, I_3, kI3, kI3b, I_zip, kZip, E_lzip, kLz, kTurn, selT_tt, selT_ff, srcL, srcT, forS_fix, lcS_fix, bnd_k, ok_ok, ok_bnd, okK_at, out_at, outK_ret, outK_nx, backK_d, asD, rd, asDs, lift_some, tru, truD, intV, isTy, sG1, sG2, sG3, sG4, setPar, Option.bind_some, Option.map_some, List.set_cons_zero, List.set_cons_succ, List.getElem?_cons_zero, List.getElem?_cons_succ, dAll, List.length_cons, List.length_nil, Nat.zero_add, Nat.reduceAdd, Nat.reduceLeDiff, Nat.reduceLT, Nat.reduceMul, sz0, sz1, sz2, sz3, sz4, sz5, sy0, sy1, sy2, sy3, sy4, if_true, List.nil_append, List.cons_append, isLst, mthD, addI, subI, subL, subT, at0, at1, at2, at3, cLt, cLe, cGt, cGe, cEqI, cNeI, cEqS, cNeS, decide_true, decide_false, Int.reduceLT, Int.reduceLE, Int.reduceSub, Int.reduceAdd, Int.reduceNeg, Int.reduceToNat, Int.cast_ofNat_Int, Bool.not_true, Bool.not_false, keepD, wipeE, biLenL, biLenT, biAbs, biRepr, biMin, biMax, biTupL, biTupT, biLstL, biLstT, biIntI, biIntB, biAll, biAny, biSum, wback, and_true, true_and, beq_self_eq_true, Int.reduceBEq, poolD, es]
    exact hQ ⟨s, y2 + m - 1, m, -1⟩ o4 ⟨hs, m0, m1, by simp only; omega, by simp only; omega, .inr rfl⟩ F4
  · have hy2 : (y3 == 0) = false := by simpa using hy
    simp only [Ss_cons, Ss_nil, then_nx, then_ret, then_bk, then_ct, then_rtt, S_aug, aug_g, aug_add, aug_sub, S_rett, S_rais, S_tryx, E_isx, E_fld, I_enu, I_ezip, kEzip, I_chr, chr_at, E_callk, kCk1_at, calm_k, ok_calm, outK_rtt, S_expr, kNx, S_asg, S_par, S_put, kPut1_at, kPut2_at, S_dput, kDput1_at, kDput2_at, S_ifs, kIfs, selS_tt, selS_ff, S_for, kFor_at, S_ret, kRet, S_pass, S_brk, S_cnt, setTo, parTo, putTo, E_var, get_v, E_int, E_bl, E_non, E_str, E_cst, E_bin, kBin, bin2, bin3_at, bin4, E_neg, neg_v, E_nt, ntV, notB_t, notB_f, E_cmp, kCmp, cmp2, cmp3_at, cmp4, E_cmp2, kChain, chainC, chain3, chain4, selC_tt, selC_ff, E_and, kAnd, selA_tt, selA_ff, E_or, kOr, selO_tt, selO_ff, E_ifx, kIfx, selE_tt, selE_ff, E_tup, mkT, E_lst, mkL, E_lstS, mkS, E_sub, kSub, sub2, sub3_at, sub4, E_slc, kSlc1, kSlc2, slc2, slc3, ptOf_at, ptK_t, ptK_f, isNilE, E_rev, revV, rev3_t, rev3_l, E_nil, E_own, ownV, E_call, kCall_at, E_bi, kBi, bi3, E_isin, kIsin, isin3, E_lc, kLc_at, lcEnd_t, lcEnd_f, E_mth, kMth_at, selM_t, Es_nil, Es_cons, kEs, kEs2, I_val, I_1, I_2, kI2, I_3, kI3, kI3b, I_zip, kZip, E_lzip, kLz, kTurn, selT_tt, selT_ff, srcL, srcT, forS_fix, lcS_fix, bnd_k, ok_ok, ok_bnd, okK_at, out_at, outK_ret, outK_nx, backK_d, asD, rd, asDs, lift_some, tru, truD, intV, isTy, sG1, sG2, sG3, sG4, setPar, Option.bind_some, Option.map_some, List.set_cons_zero, List.set_cons_succ, List.getElem?_cons_zero, List.getElem?_cons_succ, dAll, List.length_cons, List.length_nil, Nat.zero_add, Nat.reduceAdd, Nat.reduceLeDiff, Nat.reduceLT, Nat.reduceMul, sz0, sz1, sz2, sz3, sz4, sz5, sy0, sy1, sy2, sy3, sy4, if_true, List.nil_append, List.cons_append, isLst, mthD, addI, subI, subL, subT, at0, at1, at2, at3, cLt, cLe, cGt, cGe, cEqI, cNeI, cEqS, cNeS, decide_true, decide_false, Int.reduceLT, Int.reduceLE, Int.reduceSub, Int.reduceAdd, Int.reduceNeg, Int.reduceToNat, Int.cast_ofNat_Int, Bool.not_true, Bool.not_false, keepD, wipeE, biLenL, biLenT, biAbs, biRepr, biMin, biMax, biTupL, biTupT, biLstL, biLstT, biIntI, biIntB, biAll, biAny, biSum, wback, and_true, true_and, beq_self_eq_true, Int.reduceBEq, hy2, pl]
    refine drawF (n := n) hd F3 (by omega) (by omega) fun y4 o4 a4 b4 F4 => ?_
    obtain ⟨s, es, hs⟩ := str_pick a4 b4
    simp only [Ss_cons, Ss_nil, then_nx, then_ret, then_bk, then_ct, then_rtt, S_aug, aug_g, aug_add, aug_sub, S_rett, S_rais, S_tryx, E_isx, E_fld, I_enu, I_ezip, kEzip, I_chr, chr_at, E_callk, kCk1_at, calm_k, ok_calm, outK_rtt, S_expr, kNx, S_asg, S_par, S_put, kPut1_at, kPut2_at, S_dput, kDput1_at, kDput2_at, S_ifs, kIfs, selS_tt, selS_ff, S_for, kFor_at, S_ret, kRet, S_pass, S_brk, S_cnt, setTo, parTo, putTo, E_var, get_v, E_int, E_bl, E_non, E_str, E_cst, E_bin, kBin, bin2, bin3_at, bin4, E_neg, neg_v, E_nt, ntV, notB_t, notB_f, E_cmp, kCmp, cmp2, cmp3_at, cmp4, E_cmp2, kChain, chainC, chain3, chain4, selC_tt, selC_ff, E_and, kAnd, selA_tt, selA_ff, E_or, kOr, selO_tt, selO_ff, E_ifx, kIfx, selE_tt, selE_ff, E_tup, mkT, E_lst, mkL, E_lstS, mkS, E_sub, kSub, sub2, sub3_at, sub4, E_slc, kSlc1, kSlc2, slc2, slc3, ptOf_at, ptK_t, ptK_f, isNilE, E_rev, revV, rev3_t, rev3_l, E_nil, E_own, ownV, E_call, kCall_at, E_bi, kBi, bi3, E_isin, kIsin, isin3, E_lc, kLc_at, lcEnd_t, lcEnd_f, E_mth, kMth_at, selM_t, Es_nil, Es_cons, kEs, kEs2, I_val, I_1, I_2, kI2, I_3, kI3, kI3b, I_zip, kZip, E_lzip, kLz, kTurn, selT_tt, selT_ff, srcL, srcT, forS_fix, lcS_fix, bnd_k, ok_ok, ok_bnd, okK_at, out_at, outK_ret, outK_nx, backK_d, asD, rd, asDs, lift_some, tru, truD, intV, isTy, sG1, sG2, sG3, sG4, setPar, Option.bind_some, Option.map_some, List.set_cons_zero, List.set_cons_succ, List.getElem?_cons_zero, List.getElem?_cons_succ, dAll, List.length_cons, List.length_nil, Nat.zero_add, Nat.reduceAdd, Nat.reduceLeDiff, Nat.reduceLT, Nat.reduceMul, sz0, sz1, sz2, sz3, sz4, sz5, sy0, sy1, sy2, sy3, sy4, if_true, List.nil_append, List.cons_append, isLst, mthD, addI, subI, subL, subT, at0, at1, at2, at3, cLt, cLe, cGt, cGe, cEqI, cNeI, cEqS, cNeS, decide_true, decide_false, Int.reduceLT, Int.reduceLE, Int.reduceSub, Int.reduceAdd, Int.reduceNeg, Int.reduceToNat, Int.cast_ofNat_Int, Bool.not_true, Bool.not_false, keepD, wipeE, biLenL, biLenT, biAbs, biRepr, biMin, biMax, biTupL, biTupT, biLstL, biLstT, biIntI, biIntB, biAll, biAny, biSum, wback, and_true, true_and, beq_self_eq_true, Int.reduceBEq, poolD, es]
    exact hQ ⟨s, y2, m, 1⟩ o4 ⟨hs, m0, m1, by simp only; omega, by simp only; omega, .inl rfl⟩ F4
theorem reelOk {i drw slc n L : Nat} {nm nd ns' x0 x1 x2 x3 x4 x5 x6 x7 x8 y0 y1 y2 y3 y4 y5 z0 z1 z2 z3 z4 : Str} (h : T[i]? = some ⟨nm, 3, [x0, x1, x2, x3, x4, x5, x6, x7, x8], bRel drw slc, false, false⟩) (hd : T[drw]? = some ⟨nd, 2, [y0, y1, y2, y3, y4, y5], bDrf, false, false⟩) (hs : T[slc]? = some ⟨ns', 2, [z0, z1, z2, z3, z4], bSlc drw, false, false⟩)
    {pool : List Str} (p0 : 0 < pool.length) (p1 : pool.length ≤ 1000) (hL : L ≤ 50) {o : Ob} {rest : Sto} {Q : Vl → Sto → Prop} (F : Fd (n + 6 * L + 1) o) (hQ : ∀ R o', Fits 0 R → R.length ≤ L → (∀ p ∈ R, Gc pool p.1) → Fd n o' → Q (.d (filmD R)) (o' :: rest)) :
    Ok (callF cs T W (k + 3) i [.r 0, .d (.int (L : Nat)), .d (poolD pool)] (o :: rest)) Q := by
  refine ok0 (xs := [.int (L : Nat), poolD pool]) h rfl ?_
  show Ok (outOf 1 (evSs cs (callF cs T W (k + 2)) W (bRel drw slc) [some (.r 0), some (.d (.int (L : Nat))), some (.d (poolD pool)), none, none, none, none, none, none] [o])) _
  unfold bRel bRel_c0
  simp only [Ss_cons, Ss_nil, then_nx, then_ret, then_bk, then_ct, then_rtt, S_aug, aug_g, aug_add, aug_sub, S_rett, S_rais, S_tryx, E_isx, E_fld, I_enu, I_ezip, kEzip, I_chr, chr_at, E_callk, kCk1_at, calm_k, ok_calm, outK_rtt, S_expr, kNx, S_asg, S_par, S_put, kPut1_at, kPut2_at, S_dput, kDput1_at, kDput2_at, S_ifs, kIfs, selS_tt, selS_ff, S_for, kFor_at, S_ret, kRet, S_pass, S_brk, S_cnt, setTo, parTo, putTo, E_var, get_v, E_int, E_bl, E_non, E_str, E_cst, E_bin, kBin, bin2, bin3_at, bin4, E_neg, neg_v, E_nt, ntV, notB_t, notB_f, E_cmp, kCmp, cmp2, cmp3_at, cmp4, E_cmp2, kChain, chainC, chain3, chain4, selC_tt, selC_ff, E_and, kAnd, selA_tt, selA_ff, E_or, kOr, selO_tt, selO_ff, E_ifx, kIfx, selE_tt, selE_ff, E_tup, mkT, E_lst, mkL, E_lstS, mkS, E_sub, kSub, sub2, sub3_at, sub4, E_slc, kSlc1, kSlc2, slc2, slc3, ptOf_at, ptK_t, ptK_f, isNilE, E_rev, revV, rev3_t, rev3_l, E_nil, E_own, ownV, E_call, kCall_at, E_bi, kBi, bi3, E_isin, kIsin, isin3, E_lc, kLc_at, lcEnd_t, lcEnd_f, E_mth, kMth_at, selM_t, Es_nil, Es_cons, kEs, kEs2, I_val, I_1, I_2, kI2, I_3, kI3, kI3b, I_zip, kZip, E_lzip, kLz, kTurn, selT_tt, selT_ff, srcL, srcT, forS_fix, lcS_fix, bnd_k, ok_ok, ok_bnd, okK_at, out_at, outK_ret, outK_nx, backK_d, asD, rd, asDs, lift_some, tru, truD, intV, isTy, sG1, sG2, sG3, sG4, setPar, Option.bind_some, Option.map_some, List.set_cons_zero, List.set_cons_succ, List.getElem?_cons_zero, List.getElem?_cons_succ, dAll, List.length_cons, List.length_nil, Nat.zero_add, Nat.reduceAdd, Nat.reduceLeDiff, Nat.reduceLT, Nat.reduceMul, sz0, sz1, sz2, sz3, sz4, sz5, sy0, sy1, sy2, sy3, sy4, if_true, List.nil_append, List.cons_append, isLst, mthD, addI, subI, subL, subT, at0, at1, at2, at3, cLt, cLe, cGt, cGe, cEqI, cNeI, cEqS, cNeS, decide_true, decide_false, Int.reduceLT, Int.reduceLE, Int.reduceSub, Int.reduceAdd, Int.reduceNeg, Int.reduceToNat, Int.cast_ofNat_Int, Bool.not_true, Bool.not_false, keepD, wipeE, biLenL, biLenT, biAbs, biRepr, biMin, biMax, biTupL, biTupT, biLstL, biLstT, biIntI, biIntB, biAll, biAny, biSum, wback, and_true, true_and, beq_self_eq_true, Int.reduceBEq]
  refine drawF (n := n + 6 * L) hd F (by omega) (by omega) fun y o1 a1 b1 F1 => ?_
  obtain ⟨N, rfl⟩ := Int.eq_ofNat_of_zero_le a1
  have hN : N ≤ L := by omega
  simp only [Ss_cons, Ss_nil, then_nx, then_ret, then_bk, then_ct, then_rtt, S_aug, aug_g, aug_add, aug_sub, S_rett, S_rais, S_tryx, E_isx, E_fld, I_enu, I_ezip, kEzip, I_chr, chr_at, E_callk, kCk1_at, calm_k, ok_calm, outK_rtt, S_expr, kNx, S_asg, S_par, S_put, kPut1_at, kPut2_at, S_dput, kDput1_at, kDput2_at, S_ifs, kIfs, selS_tt, selS_ff, S_for, kFor_at, S_ret, kRet, S_pass, S_brk, S_cnt, setTo, parTo, putTo, E_var, get_v, E_int, E_bl, E_non, E_str, E_cst, E_bin, kBin, bin2, bin3_at, bin4, E_neg, neg_v, E_nt, ntV, notB_t, notB_f, E_cmp, kCmp, cmp2, cmp3_at, cmp4, E_cmp2, kChain, chainC, chain3, chain4, selC_tt, selC_ff, E_and, kAnd, selA_tt, selA_ff, E_or, kOr, selO_tt, selO_ff, E_ifx, kIfx, selE_tt, selE_ff, E_tup, mkT, E_lst, mkL, E_lstS, mkS, E_sub, kSub, sub2, sub3_at, sub4, E_slc, kSlc1, kSlc2, slc2, slc3, ptOf_at, ptK_t, ptK_f, isNilE, E_rev, revV, rev3_t, rev3_l, E_nil, E_own, ownV, E_call, kCall_at, E_bi, kBi, bi3, E_isin, kIsin, isin3, E_lc, kLc_at, lcEnd_t, lcEnd_f, E_mth, kMth_at, selM_t, Es_nil, Es_cons, kEs, kEs2, I_val, I_1, I_2, kI2, I_3, kI3, kI3b, I_zip, kZip, E_lzip, kLz, kTurn, selT_tt, selT_ff, srcL, srcT, forS_fix, lcS_fix, bnd_k, ok_ok, ok_bnd, okK_at, out_at, outK_ret, outK_nx, backK_d, asD, rd, asDs, lift_some, tru, truD, intV, isTy, sG1, sG2, sG3, sG4, setPar, Option.bind_some, Option.map_some, List.set_cons_zero, List.set_cons_succ, List.getElem?_cons_zero, List.getElem?_cons_succ, dAll, List.length_cons, List.length_nil, Nat.zero_add, Nat.reduceAdd, Nat.reduceLeDiff, Nat.reduceLT, Nat.reduceMul, sz0, sz1, sz2, sz3, sz4, sz5, sy0, sy1, sy2, sy3, sy4, if_true, List.nil_append, List.cons_append, isLst, mthD, addI, subI, subL, subT, at0, at1, at2, at3, cLt, cLe, cGt, cGe, cEqI, cNeI, cEqS, cNeS, decide_true, decide_false, Int.reduceLT, Int.reduceLE, Int.reduceSub, Int.reduceAdd, Int.reduceNeg, Int.reduceToNat, Int.cast_ofNat_Int, Bool.not_true, Bool.not_false, keepD, wipeE, biLenL, biLenT, biAbs, biRepr, biMin, biMax, biTupL, biTupT, biLstL, biLstT, biIntI, biIntB, biAll, biAny, biSum, wback, and_true, true_and, beq_self_eq_true, Int.reduceBEq, rng1_nat (j := N) (by omega)]
  refine okLc (fun acc left st => ∃ (C : List Ct) (o' : Ob), acc = C.map ctD ∧ C.length + left.length = N ∧ (∀ c ∈ C, Gc pool c) ∧ st = [o'] ∧ Fd (n + 2 * L + 4 * left.length) o') ⟨[], o1, rfl, by simp [rngs_len], (fun _ z => nomatch z), rfl, F1.mono (by rw [rngs_len]; omega)⟩ (by have := sl1000; simp [rngs_len]; omega) (fun acc x r st ⟨C, o', e1, e2, e3, e4, e5⟩ => ?_) fun acc st ⟨C, o', e1, e2, e3, e4, e5⟩ => ?_
  · subst e1 e4
    rw [turn_lc (env' := [some (.r 0), some (.d (.int (L : Nat))), some (.d (poolD pool)), none, some (.d x), none, none, none, none]) rfl]
    simp only [Ss_cons, Ss_nil, then_nx, then_ret, then_bk, then_ct, then_rtt, S_aug, aug_g, aug_add, aug_sub, S_rett, S_rais, S_tryx, E_isx, E_fld, I_enu, I_ezip, kEzip, I_chr, chr_at, E_callk, kCk1_at, calm_k, ok_calm, outK_rtt, S_expr, kNx, S_asg, S_par, S_put, kPut1_at, kPut2_at, S_dput, kDput1_at, kDput2_at, S_ifs, kIfs, selS_tt, selS_ff, S_for, kFor_at, S_ret, kRet, S_pass, S_brk, S_cnt, setTo, parTo, putTo, E_var, get_v, E_int, E_bl, E_non, E_str, E_cst, E_bin, kBin, bin2, bin3_at, bin4, E_neg, neg_v, E_nt, ntV, notB_t, notB_f, E_cmp, kCmp, cmp2, cmp3_at, cmp4, E_cmp2, kChain, chainC, chain3, chain4, selC_tt, selC_ff, E_and, kAnd, selA_tt, selA_ff, E_or, kOr, selO_tt, selO_ff, E_ifx, kIfx, selE_tt, selE_ff, E_tup, mkT, E_lst, mkL, E_lstS, mkS, E_sub, kSub, sub2, sub3_at, sub4, E_slc, kSlc1, kSlc2, slc2, slc3, ptOf_at, ptK_t, ptK_f, isNilE, E_rev, revV, rev3_t, rev3_l, E_nil, E_own, ownV, E_call, kCall_at, E_bi, kBi, bi3, E_isin, kIsin, isin3, E_lc, kLc_at, lcEnd_t, lcEnd_f, E_mth, kMth_at, selM_t, Es_nil, Es_cons, kEs, kEs2, I_val, I_1, I_2, kI2, I_3, kI3, kI3b, I_zip, kZip, E_lzip, kLz, kTurn, selT_tt, selT_ff, srcL, srcT, forS_fix, lcS_fix, bnd_k, ok_ok, ok_bnd, okK_at, out_at, outK_ret, outK_nx, backK_d, asD, rd, asDs, lift_some, tru, truD, intV, isTy, sG1, sG2, sG3, sG4, setPar, Option.bind_some, Option.map_some, List.set_cons_zero, List.set_cons_succ, List.getElem?_cons_zero, List.getElem?_cons_succ, dAll, List.length_cons, List.length_nil, Nat.zero_add, Nat.reduceAdd, Nat.reduceLeDiff, Nat.reduceLT, Nat.reduceMul, sz0, sz1, sz2, sz3, sz4, sz5, sy0, sy1, sy2, sy3, sy4, if_true, List.nil_append, List.cons_append, isLst, mthD, addI, subI, subL, subT, at0, at1, at2, at3, cLt, cLe, cGt, cGe, cEqI, cNeI, cEqS, cNeS, decide_true, decide_false, Int.reduceLT, Int.reduceLE, Int.reduceSub, Int.reduceAdd, Int.reduceNeg, Int.reduceToNat, Int.cast_ofNat_Int, Bool.not_true, Bool.not_false, keepD, wipeE, biLenL, biLenT, biAbs, biRepr, biMin, biMax, biTupL, biTupT, biLstL, biLstT, biIntI, biIntB, biAll, biAny, biSum, wback, and_true, true_and, beq_self_eq_true, Int.reduceBEq]
    refine slcOk (n := n + 2 * L + 4 * r.length) hs hd p0 p1 (e5.mono (by simp; omega)) fun c o2 gc F2 => ?_
    simp only [Ss_cons, Ss_nil, then_nx, then_ret, then_bk, then_ct, then_rtt, S_aug, aug_g, aug_add, aug_sub, S_rett, S_rais, S_tryx, E_isx, E_fld, I_enu, I_ezip, kEzip, I_chr, chr_at, E_callk, kCk1_at, calm_k, ok_calm, outK_rtt, S_expr, kNx, S_asg, S_par, S_put, kPut1_at, kPut2_at, S_dput, kDput1_at, kDput2_at, S_ifs, kIfs, selS_tt, selS_ff, S_for, kFor_at, S_ret, kRet, S_pass, S_brk, S_cnt, setTo, parTo, putTo, E_var, get_v, E_int, E_bl, E_non, E_str, E_cst, E_bin, kBin, bin2, bin3_at, bin4, E_neg, neg_v, E_nt, ntV, notB_t, notB_f, E_cmp, kCmp, cmp2, cmp3_at, cmp4, E_cmp2, kChain, chainC, chain3, chain4, selC_tt, selC_ff, E_and, kAnd, selA_tt, selA_ff, E_or, kOr, selO_tt, selO_ff, E_ifx, kIfx, selE_tt, selE_ff, E_tup, mkT, E_lst, mkL, E_lstS, mkS, E_sub, kSub, sub2, sub3_at, sub4, E_slc, kSlc1, kSlc2, slc2, slc3, ptOf_at, ptK_t, ptK_f, isNilE, E_rev, revV, rev3_t, rev3_l, E_nil, E_own, ownV, E_call, kCall_at, E_bi, kBi, bi3, E_isin, kIsin, isin3, E_lc, kLc_at, lcEnd_t, lcEnd_f, E_mth, kMth_at, selM_t, Es_nil, Es_cons, kEs, kEs2, I_val, I_1, I_2, kI2, I_3, kI3, kI3b, I_zip, kZip, E_lzip, kLz, kTurn, selT_tt, selT_ff, srcL, srcT, forS_fix, lcS_fix, bnd_k, ok_ok, ok_bnd, okK_at, out_at, outK_ret, outK_nx, backK_d, asD, rd, asDs, lift_some, tru, truD, intV, isTy, sG1, sG2, sG3, sG4, setPar, Option.bind_some, Option.map_some, List.set_cons_zero, List.set_cons_succ, List.getElem?_cons_zero, List.getElem?_cons_succ, dAll, List.length_cons, List.length_nil, Nat.zero_add, Nat.reduceAdd, Nat.reduceLeDiff, Nat.reduceLT, Nat.reduceMul, sz0, sz1, sz2, sz3, sz4, sz5, sy0, sy1, sy2, sy3, sy4, if_true, List.nil_append, List.cons_append, isLst, mthD, addI, subI, subL, subT, at0, at1, at2, at3, cLt, cLe, cGt, cGe, cEqI, cNeI, cEqS, cNeS, decide_true, decide_false, Int.reduceLT, Int.reduceLE, Int.reduceSub, Int.reduceAdd, Int.reduceNeg, Int.reduceToNat, Int.cast_ofNat_Int, Bool.not_true, Bool.not_false, keepD, wipeE, biLenL, biLenT, biAbs, biRepr, biMin, biMax, biTupL, biTupT, biLstL, biLstT, biIntI, biIntB, biAll, biAny, biSum, wback, and_true, true_and, beq_self_eq_true, Int.reduceBEq]
    refine ⟨C ++ [c], o2, by simp, by simp at e2 ⊢; omega, fun z hz => ?_, rfl, F2⟩
    rcases List.mem_append.mp hz with z1 | z1
    · exact e3 z z1
    · rw [List.mem_singleton.mp z1]; exact gc
  · subst e1 e4
    simp only [List.length_nil, Nat.add_zero, Nat.mul_zero] at e2 e5
    have lc : biD .len [.list (C.map ctD)] = some (.int (C.length : Nat)) := by
      show some (PyData.int ((C.map ctD).length : Nat)) = _
      rw [List.length_map]
    simp only [Ss_cons, Ss_nil, then_nx, then_ret, then_bk, then_ct, then_rtt, S_aug, aug_g, aug_add, aug_sub, S_rett, S_rais, S_tryx, E_isx, E_fld, I_enu, I_ezip, kEzip, I_chr, chr_at, E_callk, kCk1_at, calm_k, ok_calm, outK_rtt, S_expr, kNx, S_asg, S_par, S_put, kPut1_at, kPut2_at, S_dput, kDput1_at, kDput2_at, S_ifs, kIfs, selS_tt, selS_ff, S_for, kFor_at, S_ret, kRet, S_pass, S_brk, S_cnt, setTo, parTo, putTo, E_var, get_v, E_int, E_bl, E_non, E_str, E_cst, E_bin, kBin, bin2, bin3_at, bin4, E_neg, neg_v, E_nt, ntV, notB_t, notB_f, E_cmp, kCmp, cmp2, cmp3_at, cmp4, E_cmp2, kChain, chainC, chain3, chain4, selC_tt, selC_ff, E_and, kAnd, selA_tt, selA_ff, E_or, kOr, selO_tt, selO_ff, E_ifx, kIfx, selE_tt, selE_ff, E_tup, mkT, E_lst, mkL, E_lstS, mkS, E_sub, kSub, sub2, sub3_at, sub4, E_slc, kSlc1, kSlc2, slc2, slc3, ptOf_at, ptK_t, ptK_f, isNilE, E_rev, revV, rev3_t, rev3_l, E_nil, E_own, ownV, E_call, kCall_at, E_bi, kBi, bi3, E_isin, kIsin, isin3, E_lc, kLc_at, lcEnd_t, lcEnd_f, E_mth, kMth_at, selM_t, Es_nil, Es_cons, kEs, kEs2, I_val, I_1, I_2, kI2, I_3, kI3, kI3b, I_zip, kZip, E_lzip, kLz, kTurn, selT_tt, selT_ff, srcL, srcT, forS_fix, lcS_fix, bnd_k, ok_ok, ok_bnd, okK_at, out_at, outK_ret, outK_nx, backK_d, asD, rd, asDs, lift_some, tru, truD, intV, isTy, sG1, sG2, sG3, sG4, setPar, Option.bind_some, Option.map_some, List.set_cons_zero, List.set_cons_succ, List.getElem?_cons_zero, List.getElem?_cons_succ, dAll, List.length_cons, List.length_nil, Nat.zero_add, Nat.reduceAdd, Nat.reduceLeDiff, Nat.reduceLT, Nat.reduceMul, sz0, sz1, sz2, sz3, sz4, sz5, sy0, sy1, sy2, sy3, sy4, if_true, List.nil_append, List.cons_append, isLst, mthD, addI, subI, subL, subT, at0, at1, at2, at3, cLt, cLe, cGt, cGe, cEqI, cNeI, cEqS, cNeS, decide_true, decide_false, Int.reduceLT, Int.reduceLE, Int.reduceSub, Int.reduceAdd, Int.reduceNeg, Int.reduceToNat, Int.cast_ofNat_Int, Bool.not_true, Bool.not_false, keepD, wipeE, biLenL, biLenT, biAbs, biRepr, biMin, biMax, biTupL, biTupT, biLstL, biLstT, biIntI, biIntB, biAll, biAny, biSum, wback, and_true, true_and, beq_self_eq_true, Int.reduceBEq, List.length_map, rng1_nat (j := C.length) (by omega)]
    refine okFor (fun left env st => ∃ (P : Fm) (l : List Ct) (a : Int) (o' : Ob) (v4 v7 v8 : Option Vl), C = P.map (·.1) ++ l ∧ left = rngs (P.length : Nat) l.length ∧ env = [some (.r 0), some (.d (.int (L : Nat))), some (.d (poolD pool)), some (.d (.list (C.map ctD))), v4, some (.r 1), some (.d (.int a)), v7, v8] ∧ st = [o', .lst (P.map pcD)] ∧ Fd (n + 2 * l.length) o' ∧ FitP 0 P a ∧ 0 ≤ a ∧ (l = [] → a = 0) ∧ (∀ q r, l = q :: r → a ≤ q.m))
      ⟨[], C, 0, o', none, none, none, rfl, rfl, rfl, rfl, e5.mono (by omega), rfl, by omega, fun _ => rfl, fun q r e => ?_⟩ (fun x r env st ⟨P, l, a, o', v4, v7, v8, g1, g2, g3, g4, g5, g6, g7, g8, g9⟩ => ?_) fun env st ⟨P, l, a, o', v4, v7, v8, g1, g2, g3, g4, g5, g6, g7, g8, g9⟩ => ?_
    · have := (e3 q (by rw [e]; simp)).m0
      omega
    · subst g3 g4
      cases l with
      | nil => cases g2
      | cons q l =>
        cases g2
        have gq : Gc pool q := e3 q (by rw [g1]; simp)
        have lC : C.length = P.length + (l.length + 1) := by
          have := congrArg List.length g1
          simpa using this
        have hz : P.length < sizeLine := by have := sl1000; omega
        have a1 : atI (C.map ctD) ((P.length : Nat) : Int) = some (ctD q) := atM (by rw [g1, List.getElem?_append_right (by simp)]; simp)
        have nx : ((P.length : Nat) : Int) + 1 = (((P ++ [(q, (0 : Int))]).length : Nat) : Int) := by simp
        have ha := g9 q l rfl
        rw [turn_for (env' := [some (.r 0), some (.d (.int (L : Nat))), some (.d (poolD pool)), some (.d (.list (C.map ctD))), some (.d (.int (P.length : Nat))), some (.r 1), some (.d (.int a)), v7, v8]) rfl]
        unfold bRel_l1
        have fin : ∀ (f : Int) (o2 : Ob) (v4 v7 v8 : Option Vl), 0 ≤ f → f ≤ q.m - a → (l = [] → f = 0) → (∀ q' r', l = q' :: r' → f ≤ q'.m) → Fd (n + 2 * l.length) o2 → ∃ (P' : Fm) (l' : List Ct) (a' : Int) (o' : Ob) (v4' v7' v8' : Option Vl), C = P'.map (·.1) ++ l' ∧ rngs ((P.length : Nat) + 1) l.length = rngs (P'.length : Nat) l'.length ∧ [some (.r 0), some (.d (.int (L : Nat))), some (.d (poolD pool)), some (.d (.list (C.map ctD))), v4, some (.r 1), some (.d (.int f)), v7, v8] = [some (.r 0), some (.d (.int (L : Nat))), some (.d (poolD pool)), some (.d (.list (C.map ctD))), v4', some (.r 1), some (.d (.int a')), v7', v8'] ∧ [o2, .lst (P.map pcD ++ [.tuple [ctD q, .int f]])] = [o', .lst (P'.map pcD)] ∧ Fd (n + 2 * l'.length) o' ∧ FitP 0 P' a' ∧ 0 ≤ a' ∧ (l' = [] → a' = 0) ∧ (∀ q r, l' = q :: r → a' ≤ q.m) :=
          fun f o2 v4 v7 v8 f0 f1 f2 f3 F2 => ⟨P ++ [(q, f)], l, f, o2, v4, v7, v8, by rw [g1]; simp, by simp, rfl, by simp [pcD], F2, g6.snoc g7 ha f0 f1, f0, f2, f3⟩
        cases l with
        | nil =>
          have c1 : ¬ ((P.length : Nat) : Int) + 1 < ((C.length : Nat) : Int) := by rw [lC]; simp
          simp only [Ss_cons, Ss_nil, then_nx, then_ret, then_bk, then_ct, then_rtt, S_aug, aug_g, aug_add, aug_sub, S_rett, S_rais, S_tryx, E_isx, E_fld, I_enu, I_ezip, kEzip, I_chr, chr_at, E_callk, kCk1_at, calm_k, ok_calm, outK_rtt, S_expr, kNx, S_asg, S_par, S_put, kPut1_at, kPut2_at, S_dput, kDput1_at, kDput2_at, S_ifs, kIfs, selS_tt, selS_ff, S_for, kFor_at, S_ret, kRet, S_pass, S_brk, S_cnt, setTo, parTo, putTo, E_var, get_v, E_int, E_bl, E_non, E_str, E_cst, E_bin, kBin, bin2, bin3_at, bin4, E_neg, neg_v, E_nt, ntV, notB_t, notB_f, E_cmp, kCmp, cmp2, cmp3_at, cmp4, E_cmp2, kChain, chainC, chain3, chain4, selC_tt, selC_ff, E_and, kAnd, selA_tt, selA_ff, E_or, kOr, selO_tt, selO_ff, E_ifx, kIfx, selE_tt, selE_ff, E_tup, mkT, E_lst, mkL, E_lstS, mkS, E_sub, kSub, sub2, sub3_at, sub4, E_slc, kSlc1, kSlc2, slc2, slc3, ptOf_at, ptK_t, ptK_f, isNilE, E_rev, revV, rev3_t, rev3_l, E_nil, E_own, ownV, E_call, kCall_at, E_bi, kBi, bi3, E_isin, kIsin, isin3, E_lc, kLc_at, lcEnd_t, lcEnd_f, E_mth, kMth_at, selM_t, Es_nil, Es_cons, kEs, kEs2, I_val, I_1, I_2, kI2, I_3, kI3, kI3b, I_zip, kZip, E_lzip, kLz, kTurn, selT_tt, selT_ff, srcL, srcT, forS_fix, lcS_fix, bnd_k, ok_ok, ok_bnd, okK_at, out_at, outK_ret, outK_nx, backK_d, asD, rd, asDs, lift_some, tru, truD, intV, isTy, sG1, sG2, sG3, sG4, setPar, Option.bind_some, Option.map_some, List.set_cons_zero, List.set_cons_succ, List.getElem?_cons_zero, List.getElem?_cons_succ, dAll, List.length_cons, List.length_nil, Nat.zero_add, Nat.reduceAdd, Nat.reduceLeDiff, Nat.reduceLT, Nat.reduceMul, sz0, sz1, sz2, sz3, sz4, sz5, sy0, sy1, sy2, sy3, sy4, if_true, List.nil_append, List.cons_append, isLst, mthD, addI, subI, subL, subT, at0, at1, at2, at3, cLt, cLe, cGt, cGe, cEqI, cNeI, cEqS, cNeS, decide_true, decide_false, Int.reduceLT, Int.reduceLE, Int.reduceSub, Int.reduceAdd, Int.reduceNeg, Int.reduceToNat, Int.cast_ofNat_Int, Bool.not_true, Bool.not_false, keepD, wipeE, biLenL, biLenT, biAbs, biRepr, biMin, biMax, biTupL, biTupT, biLstL, biLstT, biIntI, biIntB, biAll, biAny, biSum, wback, and_true, true_and, beq_self_eq_true, Int.reduceBEq, List.length_map, c1, hz, a1]
          exact fin 0 o' _ _ _ (by omega) (by omega) (fun _ => rfl) (fun _ _ z => nomatch z) (g5.mono (by simp))
        | cons q2 l =>
          have c1 : ((P.length : Nat) : Int) + 1 < ((C.length : Nat) : Int) := by rw [lC]; simp; omega
          have gq2 : Gc pool q2 := e3 q2 (by rw [g1]; simp)
          have a2 : atI (C.map ctD) (((P.length : Nat) : Int) + 1) = some (ctD q2) := by
            have : C[P.length + 1]? = some q2 := by rw [g1, List.getElem?_append_right (by simp)]; simp
            have e := atM (d := ctD) this
            rwa [Int.natCast_add] at e
          have m0 := gq2.m0
          have m1 := gq.m1
          obtain ⟨m, em, mm0, mm1, mm2⟩ : ∃ m : Int, (if q2.m < q.m - a then q2.m else q.m - a) = m ∧ 0 ≤ m ∧ m ≤ q.m - a ∧ m ≤ q2.m := by
            by_cases hc : q2.m < q.m - a
            · exact ⟨q2.m, by rw [if_pos hc], by omega, by omega, by omega⟩
            · exact ⟨q.m - a, by rw [if_neg hc], by omega, by omega, by omega⟩
          simp only [Ss_cons, Ss_nil, then_nx, then_ret, then_bk, then_ct, then_rtt, S_aug, aug_g, aug_add, aug_sub, S_rett, S_rais, S_tryx, E_isx, E_fld, I_enu, I_ezip, kEzip, I_chr, chr_at, E_callk, kCk1_at, calm_k, ok_calm, outK_rtt, S_expr, kNx, S_asg, S_par, S_put, kPut1_at, kPut2_at, S_dput, kDput1_at, kDput2_at, S_ifs, kIfs, selS_tt, selS_ff, S_for, kFor_at, S_ret, kRet, S_pass, S_brk, S_cnt, setTo, parTo, putTo, E_var, get_v, E_int, E_bl, E_non, E_str, E_cst, E_bin, kBin, bin2, bin3_at, bin4, E_neg, neg_v, E_nt, ntV, notB_t, notB_f, E_cmp, kCmp, cmp2, cmp3_at, cmp4, E_cmp2, kChain, chainC, chain3, chain4, selC_tt, selC_ff, E_and, kAnd, selA_tt, selA_ff, E_or, kOr, selO_tt, selO_ff, E_ifx, kIfx, selE_tt, selE_ff, E_tup, mkT, E_lst, mkL, E_lstS, mkS, E_sub, kSub, sub2, sub3_at, sub4, E_slc, kSlc1, kSlc2, slc2, slc3, ptOf_at, ptK_t, ptK_f, isNilE, E_rev, revV, rev3_t, rev3_l, E_nil, E_own, ownV, E_call, kCall_at, E_bi, kBi, bi3, E_isin, kIsin, isin3, E_lc, kLc_at, lcEnd_t, lcEnd_f, E_mth, kMth_at, selM_t, Es_nil, Es_cons, kEs, kEs2, I_val, I_1, I_2, kI2, I_3, kI3, kI3b, I_zip, kZip, E_lzip, kLz, kTurn, selT_tt, selT_ff, srcL, srcT, forS_fix, lcS_fix, bnd_k, ok_ok, ok_bnd, okK_at, out_at, outK_ret, outK_nx, backK_d, asD, rd, asDs, lift_some, tru, truD, intV, isTy, sG1, sG2, sG3, sG4, setPar, Option.bind_some, Option.map_some, List.set_cons_zero, List.set_cons_succ, List.getElem?_cons_zero, List.getElem?_cons_succ, dAll, List.length_cons, List.length_nil, Nat.zero_add, Nat.reduceAdd, Nat.reduceLeDiff, Nat.reduceLT, Nat.reduceMul, sz0, sz1, sz2, sz3, sz4, sz5, sy0, sy1, sy2, sy3, sy4, if_true, List.nil_append, List.cons_append, isLst, mthD, addI, subI, subL, subT, at0, at1, at2, at3, cLt, cLe, cGt, cGe, cEqI, cNeI, cEqS, cNeS, decide_true, decide_false, Int.reduceLT, Int.reduceLE, Int.reduceSub, Int.reduceAdd, Int.reduceNeg, Int.reduceToNat, Int.cast_ofNat_Int, Bool.not_true, Bool.not_false, keepD, wipeE, biLenL, biLenT, biAbs, biRepr, biMin, biMax, biTupL, biTupT, biLstL, biLstT, biIntI, biIntB, biAll, biAny, biSum, wback, and_true, true_and, beq_self_eq_true, Int.reduceBEq, List.length_map, c1, hz, a1, a2, ctD, em]
          refine drawF (n := n + 2 * (l.length + 1) + 1) hd (g5.mono (by simp; omega)) (by omega) (by omega) fun z o2 z0 z1 F2 => ?_
          simp only [Ss_cons, Ss_nil, then_nx, then_ret, then_bk, then_ct, then_rtt, S_aug, aug_g, aug_add, aug_sub, S_rett, S_rais, S_tryx, E_isx, E_fld, I_enu, I_ezip, kEzip, I_chr, chr_at, E_callk, kCk1_at, calm_k, ok_calm, outK_rtt, S_expr, kNx, S_asg, S_par, S_put, kPut1_at, kPut2_at, S_dput, kDput1_at, kDput2_at, S_ifs, kIfs, selS_tt, selS_ff, S_for, kFor_at, S_ret, kRet, S_pass, S_brk, S_cnt, setTo, parTo, putTo, E_var, get_v, E_int, E_bl, E_non, E_str, E_cst, E_bin, kBin, bin2, bin3_at, bin4, E_neg, neg_v, E_nt, ntV, notB_t, notB_f, E_cmp, kCmp, cmp2, cmp3_at, cmp4, E_cmp2, kChain, chainC, chain3, chain4, selC_tt, selC_ff, E_and, kAnd, selA_tt, selA_ff, E_or, kOr, selO_tt, selO_ff, E_ifx, kIfx, selE_tt, selE_ff, E_tup, mkT, E_lst, mkL, E_lstS, mkS, E_sub, kSub, sub2, sub3_at, sub4, E_slc, kSlc1, kSlc2, slc2, slc3, ptOf_at, ptK_t, ptK_f, isNilE, E_rev, revV, rev3_t, rev3_l, E_nil, E_own, ownV, E_call, kCall_at, E_bi, kBi, bi3, E_isin, kIsin, isin3, E_lc, kLc_at, lcEnd_t, lcEnd_f, E_mth, kMth_at, selM_t, Es_nil, Es_cons, kEs, kEs2, I_val, I_1, I_2, kI2, I_3, kI3, kI3b, I_zip, kZip, E_lzip, kLz, kTurn, selT_tt, selT_ff, srcL, srcT, forS_fix, lcS_fix, bnd_k, ok_ok, ok_bnd, okK_at, out_at, outK_ret, outK_nx, backK_d, asD, rd, asDs, lift_some, tru, truD, intV, isTy, sG1, sG2, sG3, sG4, setPar, Option.bind_some, Option.map_some, List.set_cons_zero, List.set_cons_succ, List.getElem?_cons_zero, List.getElem?_cons_succ, dAll, List.length_cons, List.length_nil, Nat.zero_add, Nat.reduceAdd, Nat.reduceLeDiff, Nat.reduceLT, Nat.reduceMul, sz0, sz1, sz2, sz3, sz4, sz5, sy0, sy1, sy2, sy3, sy4, if_true, List.nil_append, List.cons_append, isLst, mthD, addI, subI, subL, subT, at0, at1, at2, at3, cLt, cLe, cGt, cGe, cEqI, cNeI, cEqS, cNeS, decide_true, decide_false, Int.reduceLT, Int.reduceLE, Int.reduceSub, Int.reduceAdd, Int.reduceNeg, Int.reduceToNat, Int.cast_ofNat_Int, Bool.not_true, Bool.not_false, keepD, wipeE, biLenL, biLenT, biAbs, biRepr, biMin, biMax, biTupL, biTupT, biLstL, biLstT, biIntI, biIntB, biAll, biAny, biSum, wback, and_true, true_and, beq_self_eq_true, Int.reduceBEq]
          refine drawF (n := n + 2 * (l.length + 1)) hd F2 (by omega) (by omega) fun w o3 w0 w1 F3 => ?_
          obtain ⟨f, ef, f0, f1⟩ := three w0 w1 mm0 z0 (by omega)
          have a1' : atI (C.map ctD) ((P.length : Nat) : Int) = some (.tuple [.str q.s, .int q.f, .int q.m, .int q.t]) := a1
          simp only [Ss_cons, Ss_nil, then_nx, then_ret, then_bk, then_ct, then_rtt, S_aug, aug_g, aug_add, aug_sub, S_rett, S_rais, S_tryx, E_isx, E_fld, I_enu, I_ezip, kEzip, I_chr, chr_at, E_callk, kCk1_at, calm_k, ok_calm, outK_rtt, S_expr, kNx, S_asg, S_par, S_put, kPut1_at, kPut2_at, S_dput, kDput1_at, kDput2_at, S_ifs, kIfs, selS_tt, selS_ff, S_for, kFor_at, S_ret, kRet, S_pass, S_brk, S_cnt, setTo, parTo, putTo, E_var, get_v, E_int, E_bl, E_non, E_str, E_cst, E_bin, kBin, bin2, bin3_at, bin4, E_neg, neg_v, E_nt, ntV, notB_t, notB_f, E_cmp, kCmp, cmp2, cmp3_at, cmp4, E_cmp2, kChain, chainC, chain3, chain4, selC_tt, selC_ff, E_and, kAnd, selA_tt, selA_ff, E_or, kOr, selO_tt, selO_ff, E_ifx, kIfx, selE_tt, selE_ff, E_tup, mkT, E_lst, mkL, E_lstS, mkS, E_sub, kSub, sub2, sub3_at, sub4, E_slc, kSlc1, kSlc2, slc2, slc3, ptOf_at, ptK_t, ptK_f, isNilE, E_rev, revV, rev3_t, rev3_l, E_nil, E_own, ownV, E_call, kCall_at, E_bi, kBi, bi3, E_isin, kIsin, isin3, E_lc, kLc_at, lcEnd_t, lcEnd_f, E_mth, kMth_at, selM_t, Es_nil, Es_cons, kEs, kEs2, I_val, I_1, I_2, kI2, I_3, kI3, kI3b, I_zip, kZip, E_lzip, kLz, kTurn, selT_tt, selT_ff, srcL, srcT, forS_fix, lcS_fix, bnd_k, ok_ok, ok_bnd, okK_at, out_at, outK_ret, outK_nx, backK_d, asD, rd, asDs, lift_some, tru, truD, intV, isTy, sG1, sG2, sG3, sG4, setPar, Option.bind_some, Option.map_some, List.set_cons_zero, List.set_cons_succ, List.getElem?_cons_zero, List.getElem?_cons_succ, dAll, List.length_cons, List.length_nil, Nat.zero_add, Nat.reduceAdd, Nat.reduceLeDiff, Nat.reduceLT, Nat.reduceMul, sz0, sz1, sz2, sz3, sz4, sz5, sy0, sy1, sy2, sy3, sy4, if_true, List.nil_append, List.cons_append, isLst, mthD, addI, subI, subL, subT, at0, at1, at2, at3, cLt, cLe, cGt, cGe, cEqI, cNeI, cEqS, cNeS, decide_true, decide_false, Int.reduceLT, Int.reduceLE, Int.reduceSub, Int.reduceAdd, Int.reduceNeg, Int.reduceToNat, Int.cast_ofNat_Int, Bool.not_true, Bool.not_false, keepD, wipeE, biLenL, biLenT, biAbs, biRepr, biMin, biMax, biTupL, biTupT, biLstL, biLstT, biIntI, biIntB, biAll, biAny, biSum, wback, and_true, true_and, beq_self_eq_true, Int.reduceBEq, List.length_map, ef, a1', hz]
          exact fin f o3 _ _ _ f0 (by omega) (fun z => nomatch z) (fun q' r' e => by cases e; omega) F3
    · subst g3 g4
      cases l with
      | cons q l => cases g2
      | nil =>
        rw [List.append_nil] at g1
        have a0 := g8 rfl
        subst a0
        simp only [Ss_cons, Ss_nil, then_nx, then_ret, then_bk, then_ct, then_rtt, S_aug, aug_g, aug_add, aug_sub, S_rett, S_rais, S_tryx, E_isx, E_fld, I_enu, I_ezip, kEzip, I_chr, chr_at, E_callk, kCk1_at, calm_k, ok_calm, outK_rtt, S_expr, kNx, S_asg, S_par, S_put, kPut1_at, kPut2_at, S_dput, kDput1_at, kDput2_at, S_ifs, kIfs, selS_tt, selS_ff, S_for, kFor_at, S_ret, kRet, S_pass, S_brk, S_cnt, setTo, parTo, putTo, E_var, get_v, E_int, E_bl, E_non, E_str, E_cst, E_bin, kBin, bin2, bin3_at, bin4, E_neg, neg_v, E_nt, ntV, notB_t, notB_f, E_cmp, kCmp, cmp2, cmp3_at, cmp4, E_cmp2, kChain, chainC, chain3, chain4, selC_tt, selC_ff, E_and, kAnd, selA_tt, selA_ff, E_or, kOr, selO_tt, selO_ff, E_ifx, kIfx, selE_tt, selE_ff, E_tup, mkT, E_lst, mkL, E_lstS, mkS, E_sub, kSub, sub2, sub3_at, sub4, E_slc, kSlc1, kSlc2, slc2, slc3, ptOf_at, ptK_t, ptK_f, isNilE, E_rev, revV, rev3_t, rev3_l, E_nil, E_own, ownV, E_call, kCall_at, E_bi, kBi, bi3, E_isin, kIsin, isin3, E_lc, kLc_at, lcEnd_t, lcEnd_f, E_mth, kMth_at, selM_t, Es_nil, Es_cons, kEs, kEs2, I_val, I_1, I_2, kI2, I_3, kI3, kI3b, I_zip, kZip, E_lzip, kLz, kTurn, selT_tt, selT_ff, srcL, srcT, forS_fix, lcS_fix, bnd_k, ok_ok, ok_bnd, okK_at, out_at, outK_ret, outK_nx, backK_d, asD, rd, asDs, lift_some, tru, truD, intV, isTy, sG1, sG2, sG3, sG4, setPar, Option.bind_some, Option.map_some, List.set_cons_zero, List.set_cons_succ, List.getElem?_cons_zero, List.getElem?_cons_succ, dAll, List.length_cons, List.length_nil, Nat.zero_add, Nat.reduceAdd, Nat.reduceLeDiff, Nat.reduceLT, Nat.reduceMul, sz0, sz1, sz2, sz3, sz4, sz5, sy0, sy1, sy2, sy3, sy4, if_true, List.nil_append, List.cons_append, isLst, mthD, addI, subI, subL, subT, at0, at1, at2, at3, cLt, cLe, cGt, cGe, cEqI, cNeI, cEqS, cNeS, decide_true, decide_false, Int.reduceLT, Int.reduceLE, Int.reduceSub, Int.reduceAdd, Int.reduceNeg, Int.reduceToNat, Int.cast_ofNat_Int, Bool.not_true, Bool.not_false, keepD, wipeE, biLenL, biLenT, biAbs, biRepr, biMin, biMax, biTupL, biTupT, biLstL, biLstT, biIntI, biIntB, biAll, biAny, biSum, wback, and_true, true_and, beq_self_eq_true, Int.reduceBEq]
        refine hQ P o' g6.fits ?_ (fun p hp => e3 p.1 (by rw [g1]; exact List.mem_map_of_mem hp)) (g5.mono (by simp))
        have := congrArg List.length g1
        simp at this
        omega
end
end Ev
end
section
set_option maxRecDepth 10000
/-! calls with an exception; the same by what is shown; sizes -/
namespace Ev
open PySem L2
section
variable {cs : List D} {T : List FD} {W k : Nat}
/-- a call that is handed a caught exception -/
theorem okX1 {f : Nat} {d : FD} {c : Str} {fs : List (Str × D)} {st : Sto} {Q : Vl → Sto → Prop} (h : T[f]? = some d) (hl : d.np = 1)
    (hr : Ok (outOf 0 (evSs cs (callF cs T W k) W d.body (startE d.N [.x c fs]) [])) (backK d.pure st [] Q)) : Ok (callF cs T W (k + 1) f [.x c fs] st) Q := by
  unfold callF
  rw [h]
  simp only [hl, List.length_cons, List.length_nil, Nat.zero_add, refsA, List.nodup_nil, and_self, if_true, objsA, locA]
  obtain ⟨v, s, e, q⟩ := hr.ex
  rw [e]
  exact q
def bSame : Ss := .cons (.ret (.cmp .eq (.bi .repr (.cons (.var 0) .nil)) (.bi .repr (.cons (.var 1) .nil)))) .nil
theorem sameRun {i : Nat} {nm x y : Str} (h : T[i]? = some ⟨nm, 2, [x, y], bSame, true, false⟩) {z : D} {s : Str} (hz : showD z = some (.str s)) (st : Sto) : callF cs T W (k + 1) i [.d z, .d z] st = .ok (.d (.bool true)) st := by
  refine Ok.eq (okP h rfl rfl ?_)
  show Ok (outOf 0 (evSs cs (callF cs T W k) W bSame [some (.d z), some (.d z)] [])) _
  unfold bSame
  simp only [Ss_cons, Ss_nil, then_nx, then_ret, then_bk, then_ct, then_rtt, S_aug, aug_g, aug_add, aug_sub, S_rett, S_rais, S_tryx, E_isx, E_fld, I_enu, I_ezip, kEzip, I_chr, chr_at, E_callk, kCk1_at, calm_k, ok_calm, outK_rtt, S_expr, kNx, S_asg, S_par, S_put, kPut1_at, kPut2_at, S_dput, kDput1_at, kDput2_at, S_ifs, kIfs, selS_tt, selS_ff, S_for, kFor_at, S_ret, kRet, S_pass, S_brk, S_cnt, setTo, parTo, putTo, E_var, get_v, E_int, E_bl, E_non, E_str, E_cst, E_bin, kBin, bin2, bin3_at, bin4, E_neg, neg_v, E_nt, ntV, notB_t, notB_f, E_cmp, kCmp, cmp2, cmp3_at, cmp4, E_cmp2, kChain, chainC, chain3, chain4, selC_tt, selC_ff, E_and, kAnd, selA_tt, selA_ff, E_or, kOr, selO_tt, selO_ff, E_ifx, kIfx, selE_tt, selE_ff, E_tup, mkT, E_lst, mkL, E_lstS, mkS, E_sub, kSub, sub2, sub3_at, sub4, E_slc, kSlc1, kSlc2, slc2, slc3, ptOf_at, ptK_t, ptK_f, isNilE, E_rev, revV, rev3_t, rev3_l, E_nil, E_own, ownV, E_call, kCall_at, E_bi, kBi, bi3, E_isin, kIsin, isin3, E_lc, kLc_at, lcEnd_t, lcEnd_f, E_mth, kMth_at, selM_t, Es_nil, Es_cons, kEs, kEs2, I_val, I_1, I_2, kI2, I_3, kI3, kI3b, I_zip, kZip, E_lzip, kLz, kTurn, selT_tt, selT_ff, srcL, srcT, forS_fix, lcS_fix, bnd_k, ok_ok, ok_bnd, okK_at, out_at, outK_ret, outK_nx, backK_d, asD, rd, asDs, lift_some, tru, truD, intV, isTy, sG1, sG2, sG3, sG4, setPar, Option.bind_some, Option.map_some, List.set_cons_zero, List.set_cons_succ, List.getElem?_cons_zero, List.getElem?_cons_succ, dAll, List.length_cons, List.length_nil, Nat.zero_add, Nat.reduceAdd, Nat.reduceLeDiff, Nat.reduceLT, Nat.reduceMul, sz0, sz1, sz2, sz3, sz4, sz5, sy0, sy1, sy2, sy3, sy4, if_true, List.nil_append, List.cons_append, isLst, mthD, addI, subI, subL, subT, at0, at1, at2, at3, cLt, cLe, cGt, cGe, cEqI, cNeI, cEqS, cNeS, decide_true, decide_false, Int.reduceLT, Int.reduceLE, Int.reduceSub, Int.reduceAdd, Int.reduceNeg, Int.reduceToNat, Int.cast_ofNat_Int, Bool.not_true, Bool.not_false, keepD, wipeE, biLenL, biLenT, biAbs, biRepr, biMin, biMax, biTupL, biTupT, biLstL, biLstT, biIntI, biIntB, biAll, biAny, biSum, wback, and_true, true_and, beq_self_eq_true, Int.reduceBEq, hz]
  first | done | rfl | exact ⟨rfl, rfl⟩
end
theorem neSame {x : D} (h : SeqAt.shaped x = true) : cmpD .ne x x = some false := by
  have e : PyData.eqv x x = true := SeqAt.eqv_refl x (Bool.and_eq_true_iff.mp h).1
  show (eqD x x).map (!·) = _
  unfold eqD
  rw [h, e]
  simp
theorem eqSame {x : D} (h : SeqAt.shaped x = true) : cmpD .eq x x = some true := by
  have e : PyData.eqv x x = true := SeqAt.eqv_refl x (Bool.and_eq_true_iff.mp h).1
  show eqD x x = _
  unfold eqD
  rw [h, e]
  simp
theorem low_abs {a b : Int} (hb : 0 < b) : (Fr.low a b).1.natAbs ≤ a.natAbs ∧ (Fr.low a b).2.natAbs ≤ b.natAbs := by
  unfold Fr.low
  rw [if_neg (by omega)]
  exact ⟨Int.natAbs_ediv_le_natAbs _ _, Int.natAbs_ediv_le_natAbs _ _⟩
theorem fit_fr {a b : Int} (hb : 0 < b) (h1 : a.natAbs < 2 ^ 1000) (h2 : b.natAbs < 2 ^ 1000) : Fit 3 1 (fr (Fr.low a b)) := by
  have := low_abs (a := a) hb
  refine Fit.tup (n := 1) (d := 0) (m := 2) (fun x hx => ?_) (by simp)
  simp only [List.mem_cons, List.not_mem_nil, or_false] at hx
  rcases hx with rfl | rfl
  · exact Fit.int (by omega)
  · exact Fit.int (by omega)
theorem fit_ct {c : Ct} (hs : Fit 1 0 (.str c.s)) (h1 : c.f.natAbs < 2 ^ 1000) (h2 : c.m.natAbs < 2 ^ 1000) (h3 : c.t.natAbs < 2 ^ 1000) : Fit 5 1 (ctD c) := by
  refine Fit.tup (n := 1) (d := 0) (m := 4) (fun x hx => ?_) (by simp)
  simp only [List.mem_cons, List.not_mem_nil, or_false] at hx
  rcases hx with rfl | rfl | rfl | rfl
  · exact hs
  · exact Fit.int h1
  · exact Fit.int h2
  · exact Fit.int h3
theorem p1000 {n : Nat} (h : n < 2 ^ 60) : n < 2 ^ 1000 := Nat.lt_of_lt_of_le h (Nat.pow_le_pow_right (by decide) (by decide))
theorem fit_pc {p : Ct × Int} (hs : Fit 1 0 (.str p.1.s)) (h1 : p.1.f.natAbs < 2 ^ 60) (h2 : p.1.m.natAbs < 2 ^ 60) (h3 : p.1.t.natAbs < 2 ^ 60) (h4 : p.2.natAbs < 2 ^ 60) : Fit 11 2 (pcD p) := by
  refine Fit.tup (n := 5) (d := 1) (m := 2) (fun x hx => ?_) (by simp)
  simp only [List.mem_cons, List.not_mem_nil, or_false] at hx
  rcases hx with rfl | rfl
  · exact fit_ct hs (p1000 h1) (p1000 h2) (p1000 h3)
  · exact (Fit.int (p1000 h4)).mono (by decide) (by decide)
theorem fit_film {F : Fm} {L : Nat} (hl : F.length ≤ L) (h : ∀ p ∈ F, Fit 11 2 (pcD p)) : Fit (L * 11 + 1) 3 (filmD F) := by
  refine Fit.tup (fun x hx => ?_) (by simpa using hl)
  obtain ⟨p, hp, rfl⟩ := List.mem_map.mp hx
  exact h p hp
theorem fit_src {x : Pl} {s : D} (hs : Fit 3 1 s) (h1 : x.j < 2 ^ 60) (h2 : x.i.natAbs < 2 ^ 60) (h3 : (x.p.1.f + x.i * x.p.1.t).natAbs < 2 ^ 60) : Fit 13 2 (srcD x s) := by
  refine Fit.tup (n := 3) (d := 1) (m := 4) (fun y hy => ?_) (by simp)
  simp only [List.mem_cons, List.not_mem_nil, or_false] at hy
  rcases hy with rfl | rfl | rfl | rfl
  · exact (Fit.int (p1000 (by omega))).mono (by decide) (by decide)
  · exact (Fit.int (p1000 h2)).mono (by decide) (by decide)
  · exact (Fit.int (p1000 h3)).mono (by decide) (by decide)
  · exact hs
/-- the sources of a drawn film -/
theorem fit_srcs {F : Fm} {pool : List Str} {ps : List Pl} (hF : Fits 0 F) (hc : ∀ p ∈ F, Gc pool p.1) (hl : F.length ≤ 100) (hp : ∀ x ∈ ps, F[x.j]? = some x.p ∧ 0 ≤ x.i ∧ x.i < x.p.1.m) (h2 : ps.length = 1 ∨ ps.length = 2) : Fit 27 3 (.tuple (srcsL ps (shares ps))) := by
  have one : ∀ x ∈ ps, ∀ s, Fit 3 1 s → Fit 13 2 (srcD x s) := fun x hx s hs => by
    obtain ⟨o1, o2, o3⟩ := hp x hx
    have g := hc x.p (List.mem_of_getElem? o1)
    have m1 := g.m1
    have f0 := g.f0
    have f1 := g.f1
    have hj : x.j < F.length := (List.getElem?_eq_some_iff.mp o1).1
    refine fit_src hs (Nat.lt_of_lt_of_le (show x.j < 100 by omega) (by decide)) (Nat.lt_of_lt_of_le (show x.i.natAbs < 10 by omega) (by decide)) (Nat.lt_of_lt_of_le (show (x.p.1.f + x.i * x.p.1.t).natAbs < 30 from ?_) (by decide))
    rcases g.t with e | e
    · rw [e]; omega
    · rw [e]; omega
  match ps, h2 with
  | [x], _ =>
    refine (Fit.tup (n := 13) (d := 2) (m := 2) (fun y hy => ?_) (by simp [srcsL, shares])).mono (by decide) (by decide)
    simp only [srcsL, shares, List.mem_cons, List.not_mem_nil, or_false] at hy
    subst hy
    refine one x (by simp) _ ((Fit.tup (n := 1) (d := 0) (m := 2) (fun y hy => ?_) (by simp)).mono (by decide) (by decide))
    simp only [List.mem_cons, List.not_mem_nil, or_false] at hy
    rcases hy with rfl | rfl <;> exact Fit.int (by decide)
  | [x, y], _ =>
    obtain ⟨o1, o2, o3⟩ := hp x (by simp)
    obtain ⟨q1, q2, q3⟩ := hp y (by simp)
    have fa := hF.all x.p (List.mem_of_getElem? o1)
    have g := hc x.p (List.mem_of_getElem? o1)
    have g2 := hc y.p (List.mem_of_getElem? q1)
    have m1 := g.m1
    have m2 := g2.m1
    refine (Fit.tup (n := 13) (d := 2) (m := 2) (fun z hz => ?_) (by simp [srcsL, shares])).mono (by decide) (by decide)
    simp only [srcsL, shares, List.mem_cons, List.not_mem_nil, or_false] at hz
    rcases hz with rfl | rfl
    · exact one x (by simp) _ (fit_fr (by omega) (p1000 (Nat.lt_of_lt_of_le (show _ < 100 by omega) (by decide))) (p1000 (Nat.lt_of_lt_of_le (show _ < 100 by omega) (by decide))))
    · exact one y (by simp) _ (fit_fr (by omega) (p1000 (Nat.lt_of_lt_of_le (show _ < 100 by omega) (by decide))) (p1000 (Nat.lt_of_lt_of_le (show _ < 100 by omega) (by decide))))
end Ev
end
section
set_option maxRecDepth 100000
namespace Law
open PySem L2 Ev
/-! ### the program and the law, def by def -/
def topS (i : Nat) : Stmt := PySem.Challenge.pw_tiedscenes_k59_film_frames.main.body.getD i (.Pass ⟨0, 0, 0, 0⟩)
def inS (i j : Nat) : Stmt := match topS i with
  | .ClassDef _ _ _ body _ _ _ _ _ _ _ => body.getD j (.Pass ⟨0, 0, 0, 0⟩)
  | _ => .Pass ⟨0, 0, 0, 0⟩
def b0 : Ss := .cons (.whl (.cmp .ne (.var 1) (.int 0)) (.cons (.par [0, 1] (.cons (.var 1) (.cons (.bin .mod (.var 0) (.var 1)) .nil))) .nil)) (.cons (.ret (.var 0)) .nil)
/-- common_divisor -/
abbrev f0 : FD := ⟨"common_divisor", 2, ["one", "other"], b0, true, false⟩
abbrev r0 : Row := ⟨f0, topS 14, false⟩
def b1 : Ss := .cons (.ifs (.cmp .lt (.var 1) (.int 0)) (.cons (.par [0, 1] (.cons (.bin .sub (.int 0) (.var 0)) (.cons (.bin .sub (.int 0) (.var 1)) .nil))) .nil) .nil) (.cons (.asg (.var 2) (.call 0 (.cons (.bi .abs (.cons (.var 0) .nil)) (.cons (.var 1) .nil)))) (.cons (.ret (.tup (.cons (.bin .fdiv (.var 0) (.var 2)) (.cons (.bin .fdiv (.var 1) (.var 2)) .nil)))) .nil))
/-- lowest_terms -/
abbrev f1 : FD := ⟨"lowest_terms", 2, ["over", "under", "common"], b1, true, false⟩
abbrev r1 : Row := ⟨f1, topS 15, false⟩
def b2 : Ss := .cons (.par [1, 2] (.cons (.lstS .nil) (.cons (.int 0) .nil))) (.cons (.forr (.tup (.cons (.tup (.cons (.var 4) (.cons (.var 5) (.cons (.var 6) (.cons (.var 7) .nil))))) (.cons (.var 3) .nil))) (.val (.var 0)) (.cons (.expr (.mth .append (.var 1) (.cons (.var 2) .nil))) (.cons (.aug 2 .add (.bin .sub (.var 6) (.var 3))) .nil))) (.cons (.ret (.bi .tuple (.cons (.var 1) .nil))) .nil))
/-- film_begins -/
abbrev f2 : FD := ⟨"film_begins", 1, ["film", "found", "begin", "fade", "scene", "first", "many", "step"], b2, true, false⟩
abbrev r2 : Row := ⟨f2, topS 17, false⟩
def b3 : Ss := .cons (.ret (.bi .sum (.cons (.lc (.bin .sub (.sub (.var 1) (.int 2)) (.var 2)) (.tup (.cons (.var 1) (.cons (.var 2) .nil))) (.val (.var 0)) (.bl true) [1, 2] false) .nil))) .nil
/-- film_length -/
abbrev f3 : FD := ⟨"film_length", 1, ["film", "cut", "fade"], b3, true, false⟩
abbrev r3 : Row := ⟨f3, topS 18, false⟩
def b4 : Ss := .cons (.asg (.tup (.cons (.var 2) (.cons (.var 3) (.cons (.var 4) (.cons (.var 5) .nil))))) (.var 0)) (.cons (.ret (.bin .add (.var 3) (.bin .mul (.var 1) (.var 5)))) .nil)
/-- frame_of_cut -/
abbrev f4 : FD := ⟨"frame_of_cut", 2, ["cut", "i", "scene", "first", "many", "step"], b4, true, false⟩
abbrev r4 : Row := ⟨f4, topS 19, false⟩
def b5 : Ss := .cons (.asg (.var 2) (.lstS .nil)) (.cons (.forr (.tup (.cons (.var 3) (.cons (.tup (.cons (.var 4) (.cons (.tup (.cons (.var 5) (.cons (.var 6) .nil))) .nil))) .nil))) (.ezip (.call 2 (.cons (.var 0) .nil)) (.var 0) true) (.cons (.ifs (.cmp2 .le .lt (.int 0) (.bin .sub (.var 1) (.var 4)) (.sub (.var 5) (.int 2))) (.cons (.expr (.mth .append (.var 2) (.cons (.tup (.cons (.var 3) (.cons (.bin .sub (.var 1) (.var 4)) .nil))) .nil))) .nil) .nil) .nil)) (.cons (.ret (.var 2)) .nil))
/-- cuts_at -/
abbrev f5 : FD := ⟨"cuts_at", 2, ["film", "n", "found", "number", "begin", "cut", "fade"], b5, true, false⟩
abbrev r5 : Row := ⟨f5, topS 20, false⟩
def b6 : Ss := .cons (.ifs (.cmp .eq (.bi .len (.cons (.var 1) .nil)) (.int 1)) (.cons (.ret (.lst (.cons (.tup (.cons (.int 1) (.cons (.int 1) .nil))) .nil))) .nil) .nil) (.cons (.asg (.tup (.cons (.tup (.cons (.var 3) (.cons (.var 4) .nil))) (.cons (.tup (.cons (.var 5) (.cons (.var 6) .nil))) .nil))) (.var 1)) (.cons (.asg (.var 2) (.sub (.sub (.var 0) (.var 3)) (.int 1))) (.cons (.ret (.lst (.cons (.call 1 (.cons (.bin .sub (.var 2) (.var 6)) (.cons (.bin .add (.var 2) (.int 1)) .nil))) (.cons (.call 1 (.cons (.bin .add (.var 6) (.int 1)) (.cons (.bin .add (.var 2) (.int 1)) .nil))) .nil)))) .nil)))
/-- shares_at -/
abbrev f6 : FD := ⟨"shares_at", 2, ["film", "places", "fade", "elder", "own", "later", "i"], b6, true, false⟩
abbrev r6 : Row := ⟨f6, topS 21, false⟩
def b7 : Ss := .cons (.ifs (.or (.cmp .lt (.var 1) (.int 0)) (.cmp .ge (.var 1) (.call 3 (.cons (.var 0) .nil)))) (.cons (.rais "NoNumber" ["number"] (.cons (.var 1) .nil)) .nil) .nil) (.cons (.asg (.var 2) (.call 5 (.cons (.var 0) (.cons (.var 1) .nil)))) (.cons (.asg (.var 3) (.lstS .nil)) (.cons (.forr (.tup (.cons (.tup (.cons (.var 5) (.cons (.var 6) .nil))) (.cons (.var 4) .nil))) (.zip (.var 2) (.call 6 (.cons (.var 0) (.cons (.var 2) .nil))) true) (.cons (.expr (.mth .append (.var 3) (.cons (.tup (.cons (.var 5) (.cons (.var 6) (.cons (.call 4 (.cons (.sub (.sub (.var 0) (.var 5)) (.int 0)) (.cons (.var 6) .nil))) (.cons (.var 4) .nil))))) .nil))) .nil)) (.cons (.ret (.bi .tuple (.cons (.var 3) .nil))) .nil))))
/-- sources_of -/
abbrev f7 : FD := ⟨"sources_of", 2, ["film", "n", "places", "found", "share", "number", "i"], b7, true, false⟩
abbrev r7 : Row := ⟨f7, topS 22, false⟩
def b8 : Ss := .cons (.ret (.lstS (.cons (.slc (.var 0) .nil (.int 63)) (.cons (.int 0) (.cons (.int 0) (.cons (.int 0) .nil)))))) .nil
/-- _law_feed -/
abbrev f8 : FD := ⟨"_law_feed", 1, ["_law_script"], b8, false, false⟩
abbrev r8 : Row := ⟨f8, topS 24, false⟩
def b9 : Ss := .cons (.put (.var 0) (.int 3) (.bin .add (.sub (.var 0) (.int 3)) (.int 1))) (.cons (.ifs (.cmp .gt (.sub (.var 0) (.int 2)) (.int 0)) (.cons (.asg (.var 5) (.bin .mod (.sub (.var 0) (.int 2)) (.var 1))) (.cons (.put (.var 0) (.int 2) (.bin .fdiv (.sub (.var 0) (.int 2)) (.var 1))) (.cons (.ret (.var 5)) .nil))) .nil) (.cons (.asg (.var 2) (.sub (.var 0) (.int 1))) (.cons (.put (.var 0) (.int 1) (.bin .add (.var 2) (.int 1))) (.cons (.asg (.var 3) (.ifx (.cmp .gt (.bi .len (.cons (.sub (.var 0) (.int 0)) .nil)) (.int 0)) (.sub (.sub (.var 0) (.int 0)) (.bin .mod (.var 2) (.bi .len (.cons (.sub (.var 0) (.int 0)) .nil)))) (.int 7))) (.cons (.ifs (.and (.cmp .ge (.var 3) (.bin .pow (.int 10) (.int 18))) (.cmp .lt (.var 2) (.bi .len (.cons (.sub (.var 0) (.int 0)) .nil)))) (.cons (.put (.var 0) (.int 2) (.bin .fdiv (.var 3) (.var 1))) (.cons (.ret (.bin .mod (.var 3) (.var 1))) .nil)) .nil) (.cons (.asg (.var 4) (.bin .mod (.bin .pow (.bin .add (.bin .add (.bin .mod (.var 3) (.int 2147483629)) (.bin .mul (.int 120011) (.sub (.var 0) (.int 3)))) (.int 71)) (.int 5)) (.int 2147483647))) (.cons (.ret (.bin .mod (.bin .fdiv (.bin .mod (.bin .pow (.bin .add (.var 4) (.bin .mul (.bin .mul (.int 61403) (.sub (.var 0) (.int 3))) (.sub (.var 0) (.int 3)))) (.int 5)) (.int 2147483587)) (.int 64)) (.var 1))) .nil)))))))
/-- _law_draw -/
abbrev f9 : FD := ⟨"_law_draw", 2, ["_law_feed_here", "_law_limit", "_law_spot", "_law_cell", "_law_mixed", "_law_found"], b9, false, false⟩
abbrev r9 : Row := ⟨f9, topS 25, false⟩
def b10 : Ss := .cons (.ret (.cmp .eq (.bi .repr (.cons (.var 0) .nil)) (.bi .repr (.cons (.var 1) .nil)))) .nil
/-- _law_same -/
abbrev f10 : FD := ⟨"_law_same", 2, ["_law_found", "_law_due"], b10, true, false⟩
abbrev r10 : Row := ⟨f10, topS 26, false⟩
def b11 : Ss := .cons (.par [2, 3] (.cons (.bi .abs (.cons (.var 0) .nil)) (.cons (.bi .abs (.cons (.var 1) .nil)) .nil))) (.cons (.whl (.cmp .gt (.var 3) (.int 0)) (.cons (.par [2, 3] (.cons (.var 3) (.cons (.bin .mod (.var 2) (.var 3)) .nil))) .nil)) (.cons (.ifs (.cmp .lt (.var 1) (.int 0)) (.cons (.asg (.var 2) (.bin .sub (.int 0) (.var 2))) .nil) .nil) (.cons (.ret (.tup (.cons (.bin .fdiv (.var 0) (.var 2)) (.cons (.bin .fdiv (.var 1) (.var 2)) .nil)))) .nil)))
/-- _law_frac -/
abbrev f11 : FD := ⟨"_law_frac", 2, ["_law_over", "_law_under", "_law_one_part", "_law_other_part"], b11, true, false⟩
abbrev r11 : Row := ⟨f11, topS 27, false⟩
def b12 : Ss := .cons (.asg (.var 2) (.sub (.lst (.cons (.int 1) (.cons (.int 2) (.cons (.int 3) (.cons (.int 4) (.cons (.int 5) (.cons (.int 6) (.cons (.int 9) .nil)))))))) (.call 9 (.cons (.var 0) (.cons (.int 7) .nil))))) (.cons (.par [3, 4] (.cons (.call 9 (.cons (.var 0) (.cons (.int 9) .nil))) (.cons (.call 9 (.cons (.var 0) (.cons (.int 3) .nil))) .nil))) (.cons (.ifs (.cmp .eq (.var 4) (.int 0)) (.cons (.ret (.tup (.cons (.sub (.var 1) (.call 9 (.cons (.var 0) (.cons (.bi .len (.cons (.var 1) .nil)) .nil)))) (.cons (.bin .sub (.bin .add (.var 3) (.var 2)) (.int 1)) (.cons (.var 2) (.cons (.neg (.int 1)) .nil)))))) .nil) .nil) (.cons (.ret (.tup (.cons (.sub (.var 1) (.call 9 (.cons (.var 0) (.cons (.bi .len (.cons (.var 1) .nil)) .nil)))) (.cons (.var 3) (.cons (.var 2) (.cons (.int 1) .nil)))))) .nil)))
/-- _law_slice -/
abbrev f12 : FD := ⟨"_law_slice", 2, ["_law_feed_here", "_law_pool", "_law_many", "_law_first", "_law_way"], b12, false, false⟩
abbrev r12 : Row := ⟨f12, topS 28, false⟩
def b13 : Ss := .cons (.asg (.var 3) (.lc (.call 12 (.cons (.var 0) (.cons (.var 2) .nil))) (.var 4) (.rng1 (.call 9 (.cons (.var 0) (.cons (.bin .add (.var 1) (.int 1)) .nil)))) (.bl true) [4] false)) (.cons (.par [5, 6] (.cons (.lstS .nil) (.cons (.int 0) .nil))) (.cons (.forr (.var 4) (.rng1 (.bi .len (.cons (.var 3) .nil))) (.cons (.asg (.var 7) (.int 0)) (.cons (.ifs (.cmp .lt (.bin .add (.var 4) (.int 1)) (.bi .len (.cons (.var 3) .nil))) (.cons (.asg (.var 8) (.bi .min (.cons (.bin .sub (.sub (.sub (.var 3) (.var 4)) (.int 2)) (.var 6)) (.cons (.sub (.sub (.var 3) (.bin .add (.var 4) (.int 1))) (.int 2)) .nil)))) (.cons (.asg (.var 7) (.sub (.lst (.cons (.int 0) (.cons (.var 8) (.cons (.call 9 (.cons (.var 0) (.cons (.bin .add (.var 8) (.int 1)) .nil))) .nil)))) (.call 9 (.cons (.var 0) (.cons (.int 3) .nil))))) .nil)) .nil) (.cons (.expr (.mth .append (.var 5) (.cons (.tup (.cons (.sub (.var 3) (.var 4)) (.cons (.var 7) .nil))) .nil))) (.cons (.asg (.var 6) (.var 7)) .nil))))) (.cons (.ret (.bi .tuple (.cons (.var 5) .nil))) .nil)))
/-- _law_reel -/
abbrev f13 : FD := ⟨"_law_reel", 3, ["_law_feed_here", "_law_limit", "_law_pool", "_law_slices", "_law_k", "_law_found", "_law_ahead", "_law_fade", "_law_most_now"], b13, false, false⟩
abbrev r13 : Row := ⟨f13, topS 29, false⟩
def b14 : Ss := .cons (.par [1, 2] (.cons (.lstS .nil) (.cons (.int 0) .nil))) (.cons (.forr (.tup (.cons (.var 3) (.cons (.var 4) .nil))) (.val (.var 0)) (.cons (.expr (.mth .append (.var 1) (.cons (.var 2) .nil))) (.cons (.asg (.var 2) (.bin .sub (.bin .add (.var 2) (.sub (.var 3) (.int 2))) (.var 4))) .nil))) (.cons (.rett (.cons (.var 1) (.cons (.var 2) .nil))) .nil))
/-- _law_starts -/
abbrev f14 : FD := ⟨"_law_starts", 1, ["_law_reel_here", "_law_found", "_law_spot", "_law_piece", "_law_fade"], b14, true, false⟩
abbrev r14 : Row := ⟨f14, topS 30, false⟩
def b15 : Ss := .cons (.par [4, 5] (.cons (.sub (.call 14 (.cons (.var 0) .nil)) (.int 0)) (.cons (.lstS .nil) .nil))) (.cons (.forr (.var 2) (.rng1 (.bi .len (.cons (.var 0) .nil))) (.cons (.par [8, 9] (.cons (.sub (.sub (.var 0) (.var 2)) (.int 0)) (.cons (.bin .sub (.var 1) (.sub (.var 4) (.var 2))) .nil))) (.cons (.ifs (.cmp2 .le .lt (.int 0) (.var 9) (.sub (.var 8) (.int 2))) (.cons (.expr (.mth .append (.var 5) (.cons (.tup (.cons (.var 2) (.cons (.var 9) (.cons (.bin .add (.sub (.var 8) (.int 1)) (.bin .mul (.var 9) (.sub (.var 8) (.int 3)))) (.cons (.tup (.cons (.int 1) (.cons (.int 1) .nil))) .nil))))) .nil))) .nil) .nil) .nil))) (.cons (.ifs (.cmp .lt (.bi .len (.cons (.var 5) .nil)) (.int 2)) (.cons (.ret (.bi .tuple (.cons (.var 5) .nil))) .nil) .nil) (.cons (.par [6, 7] (.cons (.sub (.sub (.var 0) (.sub (.sub (.var 5) (.int 0)) (.int 0))) (.int 1)) (.cons (.sub (.sub (.var 5) (.int 1)) (.int 1)) .nil))) (.cons (.asg (.var 3) (.lst (.cons (.call 11 (.cons (.bin .sub (.var 6) (.var 7)) (.cons (.bin .add (.var 6) (.int 1)) .nil))) (.cons (.call 11 (.cons (.bin .add (.var 7) (.int 1)) (.cons (.bin .add (.var 6) (.int 1)) .nil))) .nil)))) (.cons (.ret (.bi .tuple (.cons (.lc (.bin .add (.slc (.sub (.var 5) (.var 2)) .nil (.int 3)) (.tup (.cons (.sub (.var 3) (.var 2)) .nil))) (.var 2) (.rng1 (.int 2)) (.bl true) [2] false) .nil))) .nil)))))
/-- _law_source -/
abbrev f15 : FD := ⟨"_law_source", 2, ["_law_reel_here", "_law_n", "_law_k", "_law_shares", "_law_starts_here", "_law_found", "_law_fade", "_law_spot", "_law_piece", "_law_i"], b15, true, false⟩
abbrev r15 : Row := ⟨f15, topS 31, false⟩
def b16 : Ss := .cons (.ifs (.isx (.var 0) ["NoPart", "NoRow", "NoScene", "NoStep", "NoText"]) (.cons (.ret (.tup (.cons (.str "odd") .nil))) .nil) .nil) (.cons (.asg (.var 1) (.lstS (.cons (.isx (.var 0) ["NoPaper"]) (.cons (.isx (.var 0) ["NoCut"]) (.cons (.isx (.var 0) ["NoMore"]) (.cons (.isx (.var 0) ["NoNumber"]) .nil)))))) (.cons (.expr (.mth .append (.var 1) (.cons (.isx (.var 0) ["NoFilm"]) .nil))) (.cons (.ifs (.cmp .ne (.mth .count (.var 1) (.cons (.bl true) .nil)) (.int 1)) (.cons (.ret (.tup (.cons (.str "odd") .nil))) .nil) .nil) (.cons (.asg (.var 2) (.or (.sub (.var 1) (.int 3)) (.sub (.var 1) (.int 4)))) (.cons (.asg (.var 3) (.lst (.cons (.isx (.var 0) ["LackError"]) (.cons (.isx (.var 0) ["LookupError"]) .nil)))) (.cons (.ifs (.or (.cmp .ne (.var 3) (.bin .mul (.lst (.cons (.var 2) .nil)) (.int 2))) (.cmp .ne (.lst (.cons (.isx (.var 0) ["SceneError"]) (.cons (.isx (.var 0) ["ValueError"]) .nil))) (.bin .mul (.lst (.cons (.nt (.var 2)) .nil)) (.int 2)))) (.cons (.ret (.tup (.cons (.str "odd") .nil))) .nil) .nil) (.cons (.ifs (.sub (.var 1) (.int 0)) (.cons (.ret (.tup (.cons (.str "paper") (.cons (.fld (.var 0) "word") (.cons (.fld (.var 0) "at") .nil))))) .nil) .nil) (.cons (.ifs (.sub (.var 1) (.int 1)) (.cons (.ret (.tup (.cons (.str "cut") (.cons (.fld (.var 0) "word") .nil)))) .nil) .nil) (.cons (.ifs (.sub (.var 1) (.int 2)) (.cons (.ret (.tup (.cons (.str "more") (.cons (.fld (.var 0) "many") .nil)))) .nil) .nil) (.cons (.ret (.ifx (.sub (.var 1) (.int 3)) (.tup (.cons (.str "number") (.cons (.fld (.var 0) "number") .nil))) (.tup (.cons (.str "film") (.cons (.fld (.var 0) "name") .nil))))) .nil))))))))))
/-- _law_word -/
abbrev f16 : FD := ⟨"_law_word", 1, ["_law_e", "_law_kinds", "_law_is_lack", "_law_bases"], b16, true, true⟩
abbrev r16 : Row := ⟨f16, topS 32, false⟩
def b17 : Ss := .cons (.asg (.var 2) (.tup (.cons (.str "odd") .nil))) (.cons (.tryx (.asg (.var 2) (.tup (.cons (.str "told") (.cons (.call 7 (.cons (.var 0) (.cons (.var 1) .nil))) .nil)))) (.cons ["SceneError", "LackError"] (some 3) (.cons (.asg (.var 2) (.call 16 (.cons (.var 3) .nil))) .nil) .nil)) (.cons (.ret (.var 2)) .nil))
/-- _law_told -/
abbrev f17 : FD := ⟨"_law_told", 2, ["_law_reel_here", "_law_n", "_law_found", "_law_e"], b17, true, false⟩
abbrev r17 : Row := ⟨f17, topS 33, false⟩
def b18 : Ss := .cons (.asg (.var 1) (.call 8 (.cons (.var 0) .nil))) (.cons (.forr (.var 2) (.rng1 (.int 6)) (.cons (.asg (.var 3) (.call 13 (.cons (.var 1) (.cons (.int 6) (.cons (.tup (.cons (.str "a") (.cons (.str "b") (.cons (.str "cc") .nil)))) .nil))))) (.cons (.asg (.tup (.cons (.var 5) (.cons (.tup (.cons (.var 6) (.cons (.var 7) .nil))) .nil))) (.tup (.cons (.bi .repr (.cons (.var 3) .nil)) (.cons (.call 14 (.cons (.var 3) .nil)) .nil)))) (.cons (.ifs (.nt (.call 10 (.cons (.lst (.cons (.call 3 (.cons (.var 3) .nil)) (.cons (.call 2 (.cons (.var 3) .nil)) .nil))) (.cons (.lst (.cons (.var 7) (.cons (.bi .tuple (.cons (.var 6) .nil)) .nil))) .nil)))) (.cons (.ret (.bl false)) .nil) .nil) (.cons (.forr (.var 4) (.rng1 (.var 7)) (.cons (.ifs (.nt (.call 10 (.cons (.call 17 (.cons (.var 3) (.cons (.var 4) .nil))) (.cons (.tup (.cons (.str "told") (.cons (.call 15 (.cons (.var 3) (.cons (.var 4) .nil))) .nil))) .nil)))) (.cons (.ret (.bl false)) .nil) .nil) .nil)) (.cons (.forr (.var 4) (.val (.tup (.cons (.neg (.int 1)) (.cons (.var 7) (.cons (.bin .add (.var 7) (.int 1)) (.cons (.bin .pow (.int 10) (.int 30)) .nil)))))) (.cons (.ifs (.cmp .ne (.call 17 (.cons (.var 3) (.cons (.var 4) .nil))) (.tup (.cons (.str "number") (.cons (.var 4) .nil)))) (.cons (.ret (.bl false)) .nil) .nil) .nil)) (.cons (.ifs (.cmp .ne (.bi .repr (.cons (.var 3) .nil)) (.var 5)) (.cons (.ret (.bl false)) .nil) .nil) .nil))))))) (.cons (.ret (.and (.cmp .eq (.call 3 (.cons (.tup .nil) .nil)) (.int 0)) (.cmp .eq (.call 2 (.cons (.tup .nil) .nil)) (.tup .nil)))) .nil))
/-- law -/
abbrev f18 : FD := ⟨"law", 1, ["_law_script", "_law_feed_here", "_law_lap", "_law_reel_here", "_law_n", "_law_kept", "_law_starts_here", "_law_total"], b18, false, false⟩
abbrev r18 : Row := ⟨f18, topS 34, false⟩
def rows : List Row := [r0, r1, r2, r3, r4, r5, r6, r7, r8, r9, r10, r11, r12, r13, r14, r15, r16, r17, r18]
def T : List FD := [f0, f1, f2, f3, f4, f5, f6, f7, f8, f9, f10, f11, f12, f13, f14, f15, f16, f17, f18]
theorem T_eq : rows.map (·.fd) = T := rfl
abbrev x0 : XRow := ⟨"NoPaper", "ValueError", "ValueError.__new__", "ValueError.__init__", "SceneError", ["word", "at"], inS 3 0, "NoPaper.__init__"⟩
abbrev x1 : XRow := ⟨"NoScene", "ValueError", "ValueError.__new__", "ValueError.__init__", "SceneError", ["word", "names"], inS 4 0, "NoScene.__init__"⟩
abbrev x2 : XRow := ⟨"NoMore", "ValueError", "ValueError.__new__", "ValueError.__init__", "SceneError", ["many"], inS 5 0, "NoMore.__init__"⟩
abbrev x3 : XRow := ⟨"NoCut", "ValueError", "ValueError.__new__", "ValueError.__init__", "SceneError", ["word"], inS 6 0, "NoCut.__init__"⟩
abbrev x4 : XRow := ⟨"NoText", "ValueError", "ValueError.__new__", "ValueError.__init__", "SceneError", ["row", "word"], inS 7 0, "NoText.__init__"⟩
abbrev x5 : XRow := ⟨"NoRow", "ValueError", "ValueError.__new__", "ValueError.__init__", "SceneError", ["row"], inS 8 0, "NoRow.__init__"⟩
abbrev x6 : XRow := ⟨"NoPart", "LookupError", "LookupError.__new__", "LookupError.__init__", "LackError", ["name"], inS 9 0, "NoPart.__init__"⟩
abbrev x7 : XRow := ⟨"NoNumber", "LookupError", "LookupError.__new__", "LookupError.__init__", "LackError", ["number"], inS 10 0, "NoNumber.__init__"⟩
abbrev x8 : XRow := ⟨"NoFilm", "LookupError", "LookupError.__new__", "LookupError.__init__", "LackError", ["name"], inS 11 0, "NoFilm.__init__"⟩
abbrev x9 : XRow := ⟨"NoStep", "LookupError", "LookupError.__new__", "LookupError.__init__", "LackError", ["number"], inS 12 0, "NoStep.__init__"⟩
def xrows : List XRow := [x0, x1, x2, x3, x4, x5, x6, x7, x8, x9]
def ct : List (Str × List Str) := [("ValueError", ["ValueError"]), ("LookupError", ["LookupError"]), ("SceneError", ["SceneError", "ValueError"]), ("LackError", ["LackError", "LookupError"]), ("NoPaper", ["NoPaper", "SceneError", "ValueError"]), ("NoScene", ["NoScene", "SceneError", "ValueError"]), ("NoMore", ["NoMore", "SceneError", "ValueError"]), ("NoCut", ["NoCut", "SceneError", "ValueError"]), ("NoText", ["NoText", "SceneError", "ValueError"]), ("NoRow", ["NoRow", "SceneError", "ValueError"]), ("NoPart", ["NoPart", "LackError", "LookupError"]), ("NoNumber", ["NoNumber", "LackError", "LookupError"]), ("NoFilm", ["NoFilm", "LackError", "LookupError"]), ("NoStep", ["NoStep", "LackError", "LookupError"])]
def CN : List Str := []
def cs : List D := [tabD ct]
def BN : List Str := ["abs", "enumerate", "isinstance", "len", "min", "range", "repr", "sum", "tuple", "zip"]
def FL : List Str := ["at", "many", "name", "number", "word"]
def kf : List KForm := []
def whole : Whole := ⟨rows, xrows, CN, cs, BN, FL, ct, kf⟩
theorem bd0 : r0.kwo = false → BindOk r0 := fun _ _ _ _ _ _ _ us hl => match us, hl with | [_, _], _ => rfl
theorem bd1 : r1.kwo = false → BindOk r1 := fun _ _ _ _ _ _ _ us hl => match us, hl with | [_, _], _ => rfl
theorem bd2 : r2.kwo = false → BindOk r2 := fun _ _ _ _ _ _ _ us hl => match us, hl with | [_], _ => rfl
theorem bd3 : r3.kwo = false → BindOk r3 := fun _ _ _ _ _ _ _ us hl => match us, hl with | [_], _ => rfl
theorem bd4 : r4.kwo = false → BindOk r4 := fun _ _ _ _ _ _ _ us hl => match us, hl with | [_, _], _ => rfl
theorem bd5 : r5.kwo = false → BindOk r5 := fun _ _ _ _ _ _ _ us hl => match us, hl with | [_, _], _ => rfl
theorem bd6 : r6.kwo = false → BindOk r6 := fun _ _ _ _ _ _ _ us hl => match us, hl with | [_, _], _ => rfl
theorem bd7 : r7.kwo = false → BindOk r7 := fun _ _ _ _ _ _ _ us hl => match us, hl with | [_, _], _ => rfl
theorem bd8 : r8.kwo = false → BindOk r8 := fun _ _ _ _ _ _ _ us hl => match us, hl with | [_], _ => rfl
theorem bd9 : r9.kwo = false → BindOk r9 := fun _ _ _ _ _ _ _ us hl => match us, hl with | [_, _], _ => rfl
theorem bd10 : r10.kwo = false → BindOk r10 := fun _ _ _ _ _ _ _ us hl => match us, hl with | [_, _], _ => rfl
theorem bd11 : r11.kwo = false → BindOk r11 := fun _ _ _ _ _ _ _ us hl => match us, hl with | [_, _], _ => rfl
theorem bd12 : r12.kwo = false → BindOk r12 := fun _ _ _ _ _ _ _ us hl => match us, hl with | [_, _], _ => rfl
theorem bd13 : r13.kwo = false → BindOk r13 := fun _ _ _ _ _ _ _ us hl => match us, hl with | [_, _, _], _ => rfl
theorem bd14 : r14.kwo = false → BindOk r14 := fun _ _ _ _ _ _ _ us hl => match us, hl with | [_], _ => rfl
theorem bd15 : r15.kwo = false → BindOk r15 := fun _ _ _ _ _ _ _ us hl => match us, hl with | [_, _], _ => rfl
theorem bd16 : r16.kwo = false → BindOk r16 := fun _ _ _ _ _ _ _ us hl => match us, hl with | [_], _ => rfl
theorem bd17 : r17.kwo = false → BindOk r17 := fun _ _ _ _ _ _ _ us hl => match us, hl with | [_, _], _ => rfl
theorem bd18 : r18.kwo = false → BindOk r18 := fun _ _ _ _ _ _ _ us hl => match us, hl with | [_], _ => rfl
theorem bds : ∀ r ∈ rows, r.kwo = false → BindOk r := by
  intro r h
  simp only [rows, List.mem_cons, List.not_mem_nil, or_false] at h
  rcases h with rfl | rfl | rfl | rfl | rfl | rfl | rfl | rfl | rfl | rfl | rfl | rfl | rfl | rfl | rfl | rfl | rfl | rfl | rfl
  · exact bd0
  · exact bd1
  · exact bd2
  · exact bd3
  · exact bd4
  · exact bd5
  · exact bd6
  · exact bd7
  · exact bd8
  · exact bd9
  · exact bd10
  · exact bd11
  · exact bd12
  · exact bd13
  · exact bd14
  · exact bd15
  · exact bd16
  · exact bd17
  · exact bd18
theorem xb0 : XBind x0 := fun _ _ _ _ _ _ us hl => match us, hl with | [_, _, _], _ => rfl
theorem xb1 : XBind x1 := fun _ _ _ _ _ _ us hl => match us, hl with | [_, _, _], _ => rfl
theorem xb2 : XBind x2 := fun _ _ _ _ _ _ us hl => match us, hl with | [_, _], _ => rfl
theorem xb3 : XBind x3 := fun _ _ _ _ _ _ us hl => match us, hl with | [_, _], _ => rfl
theorem xb4 : XBind x4 := fun _ _ _ _ _ _ us hl => match us, hl with | [_, _, _], _ => rfl
theorem xb5 : XBind x5 := fun _ _ _ _ _ _ us hl => match us, hl with | [_, _], _ => rfl
theorem xb6 : XBind x6 := fun _ _ _ _ _ _ us hl => match us, hl with | [_, _], _ => rfl
theorem xb7 : XBind x7 := fun _ _ _ _ _ _ us hl => match us, hl with | [_, _], _ => rfl
theorem xb8 : XBind x8 := fun _ _ _ _ _ _ us hl => match us, hl with | [_, _], _ => rfl
theorem xb9 : XBind x9 := fun _ _ _ _ _ _ us hl => match us, hl with | [_, _], _ => rfl
theorem xbds : ∀ r ∈ xrows, XBind r := by
  intro r h
  simp only [xrows, List.mem_cons, List.not_mem_nil, or_false] at h
  rcases h with rfl | rfl | rfl | rfl | rfl | rfl | rfl | rfl | rfl | rfl
  · exact xb0
  · exact xb1
  · exact xb2
  · exact xb3
  · exact xb4
  · exact xb5
  · exact xb6
  · exact xb7
  · exact xb8
  · exact xb9
theorem kbs : ∀ q ∈ kf, KfOk rows q := fun q h => nomatch h
theorem okW : whole.Ok := ⟨by decide +kernel, bds, kbs, by decide +kernel, xbds, rfl⟩
end Law
end
section
set_option maxRecDepth 100000
set_option maxHeartbeats 0
namespace Law
open PySem PySem.Spec PyProof.Rows L2 Ev
abbrev R : PySem.W.OpenRow := PySem.W.OpenLaw.row PySem.Challenge.rw_tiedscenes_k59_film_frames
abbrev hk : PySem.W.Hook := hookX 4 whole
def ob (s : PySem.W.SharedT) : He.AlD × Bool := obsX 4 whole (HandSHeadRun.getT s)
theorem ob_eq (s : PySem.W.SharedT) : ob s = hk.obs s.abs := obsX_eq (HandSHeadRun.getT_eq s)
def loose : List Str := ["common_divisor", "lowest_terms", "film_begins", "film_length", "frame_of_cut", "cuts_at", "shares_at", "sources_of", "_law_feed", "_law_draw", "_law_same", "_law_frac", "_law_slice", "_law_reel", "_law_starts", "_law_source", "_law_word", "_law_told", "SceneError", "LackError", "NoPaper", "NoScene", "NoMore", "NoCut", "NoText", "NoRow", "NoPart", "NoNumber", "NoFilm", "NoStep"]
theorem run (w : World) : HandSHeadRun.RunEq R (PySem.W.view R.prog [34]) hk ob 20000 loose w := by
  intro os
  kernel_rfl
end Law
end
section
set_option maxRecDepth 100000
namespace Law
open PySem L2 Ev
variable {W k : Nat} {st : Sto}
def l18_0 : Ss := .cons (.ifs (.nt (.call 10 (.cons (.call 17 (.cons (.var 3) (.cons (.var 4) .nil))) (.cons (.tup (.cons (.str "told") (.cons (.call 15 (.cons (.var 3) (.cons (.var 4) .nil))) .nil))) .nil)))) (.cons (.ret (.bl false)) .nil) .nil) .nil
def l18_1 : Ss := .cons (.ifs (.cmp .ne (.call 17 (.cons (.var 3) (.cons (.var 4) .nil))) (.tup (.cons (.str "number") (.cons (.var 4) .nil)))) (.cons (.ret (.bl false)) .nil) .nil) .nil
def l18_2 : Ss := .cons (.asg (.var 3) (.call 13 (.cons (.var 1) (.cons (.int 6) (.cons (.tup (.cons (.str "a") (.cons (.str "b") (.cons (.str "cc") .nil)))) .nil))))) (.cons (.asg (.tup (.cons (.var 5) (.cons (.tup (.cons (.var 6) (.cons (.var 7) .nil))) .nil))) (.tup (.cons (.bi .repr (.cons (.var 3) .nil)) (.cons (.call 14 (.cons (.var 3) .nil)) .nil)))) (.cons (.ifs (.nt (.call 10 (.cons (.lst (.cons (.call 3 (.cons (.var 3) .nil)) (.cons (.call 2 (.cons (.var 3) .nil)) .nil))) (.cons (.lst (.cons (.var 7) (.cons (.bi .tuple (.cons (.var 6) .nil)) .nil))) .nil)))) (.cons (.ret (.bl false)) .nil) .nil) (.cons (.forr (.var 4) (.rng1 (.var 7)) l18_0) (.cons (.forr (.var 4) (.val (.tup (.cons (.neg (.int 1)) (.cons (.var 7) (.cons (.bin .add (.var 7) (.int 1)) (.cons (.bin .pow (.int 10) (.int 30)) .nil)))))) l18_1) (.cons (.ifs (.cmp .ne (.bi .repr (.cons (.var 3) .nil)) (.var 5)) (.cons (.ret (.bl false)) .nil) .nil) .nil)))))
def s18_0 : S := .asg (.var 1) (.call 8 (.cons (.var 0) .nil))
def s18_1 : S := .forr (.var 2) (.rng1 (.int 6)) l18_2
def s18_2 : S := .ret (.and (.cmp .eq (.call 3 (.cons (.tup .nil) .nil)) (.int 0)) (.cmp .eq (.call 2 (.cons (.tup .nil) .nil)) (.tup .nil)))
theorem b18_eq : b18 = .cons s18_0 (.cons s18_1 (.cons s18_2 .nil)) := rfl
theorem an : ancD (ctOf cs) "NoNumber" = some (["NoNumber", "LackError", "LookupError"] : List Str) := by decide +kernel
theorem isN {ns : List Str} {b : Bool} {fs : List (Str × D)} {st : Sto} (h : xsubs cs "NoNumber" ns = some b) : isxV cs ns (.x "NoNumber" fs) st = .ok (.d (.bool b)) st := isx_at an h
theorem n0 : xsubs cs "NoNumber" ["NoPart", "NoRow", "NoScene", "NoStep", "NoText"] = some false := by decide +kernel
theorem n1 : xsubs cs "NoNumber" ["NoPaper"] = some false := by decide +kernel
theorem n2 : xsubs cs "NoNumber" ["NoCut"] = some false := by decide +kernel
theorem n3 : xsubs cs "NoNumber" ["NoMore"] = some false := by decide +kernel
theorem n4 : xsubs cs "NoNumber" ["NoNumber"] = some true := by decide +kernel
theorem n5 : xsubs cs "NoNumber" ["NoFilm"] = some false := by decide +kernel
theorem n6 : xsubs cs "NoNumber" ["LackError"] = some true := by decide +kernel
theorem n7 : xsubs cs "NoNumber" ["LookupError"] = some true := by decide +kernel
theorem n8 : xsubs cs "NoNumber" ["SceneError"] = some false := by decide +kernel
theorem n9 : xsubs cs "NoNumber" ["ValueError"] = some false := by decide +kernel
theorem n10 : xsubs cs "NoNumber" ["SceneError", "LackError"] = some true := by decide +kernel
theorem five : [PyData.bool false, .bool false, .bool false, .bool true].all flatD = true := rfl
theorem mul2 (x : D) : binD .mul (.list [x]) (.int 2) = some (.list [x, x]) := rfl
theorem ne1 : cmpD .ne (.list [.bool true, .bool true]) (.list [.bool true, .bool true]) = some false := by decide +kernel
theorem ne2 : cmpD .ne (.list [.bool false, .bool false]) (.list [.bool false, .bool false]) = some false := by decide +kernel
theorem cnt1 : ([PyData.bool false, .bool false, .bool false, .bool true, .bool false].all flatD && flatD (.bool true)) = true := rfl
theorem cnt2 : ((List.countP (fun x => PyData.eqv x (.bool true)) [PyData.bool false, .bool false, .bool false, .bool true, .bool false] : Nat) : Int) = 1 := by decide +kernel
theorem at4 (a b c d e : D) : atI [a, b, c, d, e] 4 = some e := by
  have : atI [a, b, c, d, e] ((4 : Nat) : Int) = some e := atI_nat rfl
  exact this
theorem word_run {d : D} : callF cs T W (k + 1) 16 [.x "NoNumber" [("number", d)]] st = .ok (.d (.tuple [.str "number", d])) st := by
  refine Ok.eq (okX1 (d := f16) rfl rfl ?_)
  show Ok (outOf 0 (evSs cs (callF cs T W k) W b16 [some (.x "NoNumber" [("number", d)]), none, none, none] [])) _
  have fl : ∀ st, fldV cs "number" (.x "NoNumber" [("number", d)]) st = .ok (.d d) st := fun st => fld_at an rfl
  have ap : ∀ (xs : List D) (x : D), mthD .append (.r 0) [.d x] [.lst xs] = (if xs.length < sizeLine then .ok (.d .none) [.lst (xs ++ [x])] else .no) := fun _ _ => rfl
  unfold b16
  simp only [Ss_cons, Ss_nil, then_nx, then_ret, then_bk, then_ct, then_rtt, S_aug, aug_g, aug_add, aug_sub, S_rett, S_rais, S_tryx, E_isx, E_fld, I_enu, I_ezip, kEzip, I_chr, chr_at, E_callk, kCk1_at, calm_k, ok_calm, outK_rtt, S_expr, kNx, S_asg, S_par, S_put, kPut1_at, kPut2_at, S_dput, kDput1_at, kDput2_at, S_ifs, kIfs, selS_tt, selS_ff, S_for, kFor_at, S_ret, kRet, S_pass, S_brk, S_cnt, setTo, parTo, putTo, E_var, get_v, E_int, E_bl, E_non, E_str, E_cst, E_bin, kBin, bin2, bin3_at, bin4, E_neg, neg_v, E_nt, ntV, notB_t, notB_f, E_cmp, kCmp, cmp2, cmp3_at, cmp4, E_cmp2, kChain, chainC, chain3, chain4, selC_tt, selC_ff, E_and, kAnd, selA_tt, selA_ff, E_or, kOr, selO_tt, selO_ff, E_ifx, kIfx, selE_tt, selE_ff, E_tup, mkT, E_lst, mkL, E_lstS, mkS, E_sub, kSub, sub2, sub3_at, sub4, E_slc, kSlc1, kSlc2, slc2, slc3, ptOf_at, ptK_t, ptK_f, isNilE, E_rev, revV, rev3_t, rev3_l, E_nil, E_own, ownV, E_call, kCall_at, E_bi, kBi, bi3, E_isin, kIsin, isin3, E_lc, kLc_at, lcEnd_t, lcEnd_f, E_mth, kMth_at, selM_t, Es_nil, Es_cons, kEs, kEs2, I_val, I_1, I_2, kI2, I_3, kI3, kI3b, I_zip, kZip, E_lzip, kLz, kTurn, selT_tt, selT_ff, srcL, srcT, forS_fix, lcS_fix, bnd_k, ok_ok, ok_bnd, okK_at, out_at, outK_ret, outK_nx, backK_d, asD, rd, asDs, lift_some, tru, truD, intV, isTy, sG1, sG2, sG3, sG4, setPar, Option.bind_some, Option.map_some, List.set_cons_zero, List.set_cons_succ, List.getElem?_cons_zero, List.getElem?_cons_succ, dAll, List.length_cons, List.length_nil, Nat.zero_add, Nat.reduceAdd, Nat.reduceLeDiff, Nat.reduceLT, Nat.reduceMul, sz0, sz1, sz2, sz3, sz4, sz5, sy0, sy1, sy2, sy3, sy4, if_true, List.nil_append, List.cons_append, isLst, mthD, addI, subI, subL, subT, at0, at1, at2, at3, cLt, cLe, cGt, cGe, cEqI, cNeI, cEqS, cNeS, decide_true, decide_false, Int.reduceLT, Int.reduceLE, Int.reduceSub, Int.reduceAdd, Int.reduceNeg, Int.reduceToNat, Int.cast_ofNat_Int, Bool.not_true, Bool.not_false, keepD, wipeE, biLenL, biLenT, biAbs, biRepr, biMin, biMax, biTupL, biTupT, biLstL, biLstT, biIntI, biIntB, biAll, biAny, biSum, wback, and_true, true_and, beq_self_eq_true, Int.reduceBEq, isN n0, isN n1, isN n2, isN n3, isN n4, isN n5, isN n6, isN n7, isN n8, isN n9, cnt1, cnt2, at4, mul2, ne1, ne2, fl]
  first | done | rfl | exact ⟨rfl, rfl⟩ | skip
end Law
end
section
set_option maxRecDepth 100000
namespace Law
open PySem L2 Ev
variable {W k : Nat} {st : Sto}
structure Dr (F : Fm) : Prop where
  fits : Fits 0 F
  len : F.length ≤ 6
  gc : ∀ p ∈ F, Gc ["a", "b", "cc"] p.1
theorem Dr.gf {F : Fm} (h : Dr F) : Gf F := ⟨by have := h.len; omega, h.fits, fun p hp => by
  have g := h.gc p hp
  have := g.f0
  have := g.f1
  have := g.m1
  refine ⟨by omega, ?_, by omega⟩
  rcases g.t with e | e <;> (rw [e]; decide)⟩
theorem src_fn (hW : 2 ^ 8000 ≤ W) {F : Fm} (h : Dr F) : SrcFn cs T W (k + 3) 3 5 6 4 F := by
  have hl : F.length ≤ 1000 := by have := h.len; omega
  refine ⟨fun st => lenRun (k := k + 2) (i := 3) rfl hl, fun n st => cutRun (k := k + 2) (i := 5) (beg := 2) rfl hl fun st => begRun (k := k + 1) (i := 2) rfl hl, fun ps st hp h2 => ?_, fun x st hx h0 h1 => ?_⟩
  · match ps, h2 with
    | [a], _ => exact shrRun1 (k := k + 2) (i := 6) (low := 1) rfl
    | [a, b], _ =>
      obtain ⟨o1, o2, o3⟩ := hp a (by simp)
      have fa := h.fits.all a.p (List.mem_of_getElem? o1)
      have g := (h.gc a.p (List.mem_of_getElem? o1)).m1
      refine shrRun2 (k := k + 2) (i := 6) (low := 1) rfl o1 fun u st => ?_
      refine run_low (k := k) (i := 1) (g := 0) rfl rfl (m := 100) (by omega) (Nat.lt_of_lt_of_le (show _ < 100 by omega) (by decide)) (by decide) (Nat.lt_of_lt_of_le (Nat.lt_of_lt_of_le (show _ < 2 ^ 100 from Nat.lt_of_lt_of_le (show _ < 100 by omega) (by decide)) (Nat.pow_le_pow_right (by decide) (by decide))) hW) st
  · have g := h.gc x.p hx
    have m1 := g.m1
    refine frmRun (k := k + 2) (i := 4) rfl (by rw [pow64]; omega) ?_
    rcases g.t with e | e <;> (rw [e]; decide)
theorem told_in (hW : 2 ^ 8000 ≤ W) {F : Fm} (h : Dr F) {n : Int} (h0 : 0 ≤ n) (h1 : n < total F) : callF cs T W (k + 5) 17 [.d (filmD F), .d (.int n)] st = .ok (.d (.tuple [.str "told", .tuple (srcsL (places 0 0 n F) (shares (places 0 0 n F)))])) st := by
  refine Ok.eq (okP (d := f17) rfl rfl rfl ?_)
  show Ok (outOf 0 (evSs cs (callF cs T W (k + 4)) W b17 [some (.d (filmD F)), some (.d (.int n)), none, none] [])) _
  have two := (places_two F 0 0 0 n h.fits h0 (by omega)).1
  have s1 : ∀ st, callF cs T W (k + 4) 7 [.d (filmD F), .d (.int n)] st = .ok (.d (.tuple (srcsL (places 0 0 n F) (shares (places 0 0 n F))))) st := fun st => srcRun (k := k + 3) (i := 7) rfl (src_fn hW h) h0 h1 two
  unfold b17
  simp only [Ss_cons, Ss_nil, then_nx, then_ret, then_bk, then_ct, then_rtt, S_aug, aug_g, aug_add, aug_sub, S_rett, S_rais, S_tryx, E_isx, E_fld, I_enu, I_ezip, kEzip, I_chr, chr_at, E_callk, kCk1_at, calm_k, ok_calm, outK_rtt, S_expr, kNx, S_asg, S_par, S_put, kPut1_at, kPut2_at, S_dput, kDput1_at, kDput2_at, S_ifs, kIfs, selS_tt, selS_ff, S_for, kFor_at, S_ret, kRet, S_pass, S_brk, S_cnt, setTo, parTo, putTo, E_var, get_v, E_int, E_bl, E_non, E_str, E_cst, E_bin, kBin, bin2, bin3_at, bin4, E_neg, neg_v, E_nt, ntV, notB_t, notB_f, E_cmp, kCmp, cmp2, cmp3_at, cmp4, E_cmp2, kChain, chainC, chain3, chain4, selC_tt, selC_ff, E_and, kAnd, selA_tt, selA_ff, E_or, kOr, selO_tt, selO_ff, E_ifx, kIfx, selE_tt, selE_ff, E_tup, mkT, E_lst, mkL, E_lstS, mkS, E_sub, kSub, sub2, sub3_at, sub4, E_slc, kSlc1, kSlc2, slc2, slc3, ptOf_at, ptK_t, ptK_f, isNilE, E_rev, revV, rev3_t, rev3_l, E_nil, E_own, ownV, E_call, kCall_at, E_bi, kBi, bi3, E_isin, kIsin, isin3, E_lc, kLc_at, lcEnd_t, lcEnd_f, E_mth, kMth_at, selM_t, Es_nil, Es_cons, kEs, kEs2, I_val, I_1, I_2, kI2, I_3, kI3, kI3b, I_zip, kZip, E_lzip, kLz, kTurn, selT_tt, selT_ff, srcL, srcT, forS_fix, lcS_fix, bnd_k, ok_ok, ok_bnd, okK_at, out_at, outK_ret, outK_nx, backK_d, asD, rd, asDs, lift_some, tru, truD, intV, isTy, sG1, sG2, sG3, sG4, setPar, Option.bind_some, Option.map_some, List.set_cons_zero, List.set_cons_succ, List.getElem?_cons_zero, List.getElem?_cons_succ, dAll, List.length_cons, List.length_nil, Nat.zero_add, Nat.reduceAdd, Nat.reduceLeDiff, Nat.reduceLT, Nat.reduceMul, sz0, sz1, sz2, sz3, sz4, sz5, sy0, sy1, sy2, sy3, sy4, if_true, List.nil_append, List.cons_append, isLst, mthD, addI, subI, subL, subT, at0, at1, at2, at3, cLt, cLe, cGt, cGe, cEqI, cNeI, cEqS, cNeS, decide_true, decide_false, Int.reduceLT, Int.reduceLE, Int.reduceSub, Int.reduceAdd, Int.reduceNeg, Int.reduceToNat, Int.cast_ofNat_Int, Bool.not_true, Bool.not_false, keepD, wipeE, biLenL, biLenT, biAbs, biRepr, biMin, biMax, biTupL, biTupT, biLstL, biLstT, biIntI, biIntB, biAll, biAny, biSum, wback, and_true, true_and, beq_self_eq_true, Int.reduceBEq]
  refine try_ok ?_
  simp only [Ss_cons, Ss_nil, then_nx, then_ret, then_bk, then_ct, then_rtt, S_aug, aug_g, aug_add, aug_sub, S_rett, S_rais, S_tryx, E_isx, E_fld, I_enu, I_ezip, kEzip, I_chr, chr_at, E_callk, kCk1_at, calm_k, ok_calm, outK_rtt, S_expr, kNx, S_asg, S_par, S_put, kPut1_at, kPut2_at, S_dput, kDput1_at, kDput2_at, S_ifs, kIfs, selS_tt, selS_ff, S_for, kFor_at, S_ret, kRet, S_pass, S_brk, S_cnt, setTo, parTo, putTo, E_var, get_v, E_int, E_bl, E_non, E_str, E_cst, E_bin, kBin, bin2, bin3_at, bin4, E_neg, neg_v, E_nt, ntV, notB_t, notB_f, E_cmp, kCmp, cmp2, cmp3_at, cmp4, E_cmp2, kChain, chainC, chain3, chain4, selC_tt, selC_ff, E_and, kAnd, selA_tt, selA_ff, E_or, kOr, selO_tt, selO_ff, E_ifx, kIfx, selE_tt, selE_ff, E_tup, mkT, E_lst, mkL, E_lstS, mkS, E_sub, kSub, sub2, sub3_at, sub4, E_slc, kSlc1, kSlc2, slc2, slc3, ptOf_at, ptK_t, ptK_f, isNilE, E_rev, revV, rev3_t, rev3_l, E_nil, E_own, ownV, E_call, kCall_at, E_bi, kBi, bi3, E_isin, kIsin, isin3, E_lc, kLc_at, lcEnd_t, lcEnd_f, E_mth, kMth_at, selM_t, Es_nil, Es_cons, kEs, kEs2, I_val, I_1, I_2, kI2, I_3, kI3, kI3b, I_zip, kZip, E_lzip, kLz, kTurn, selT_tt, selT_ff, srcL, srcT, forS_fix, lcS_fix, bnd_k, ok_ok, ok_bnd, okK_at, out_at, outK_ret, outK_nx, backK_d, asD, rd, asDs, lift_some, tru, truD, intV, isTy, sG1, sG2, sG3, sG4, setPar, Option.bind_some, Option.map_some, List.set_cons_zero, List.set_cons_succ, List.getElem?_cons_zero, List.getElem?_cons_succ, dAll, List.length_cons, List.length_nil, Nat.zero_add, Nat.reduceAdd, Nat.reduceLeDiff, Nat.reduceLT, Nat.reduceMul, sz0, sz1, sz2, sz3, sz4, sz5, sy0, sy1, sy2, sy3, sy4, if_true, List.nil_append, List.cons_append, isLst, mthD, addI, subI, subL, subT, at0, at1, at2, at3, cLt, cLe, cGt, cGe, cEqI, cNeI, cEqS, cNeS, decide_true, decide_false, Int.reduceLT, Int.reduceLE, Int.reduceSub, Int.reduceAdd, Int.reduceNeg, Int.reduceToNat, Int.cast_ofNat_Int, Bool.not_true, Bool.not_false, keepD, wipeE, biLenL, biLenT, biAbs, biRepr, biMin, biMax, biTupL, biTupT, biLstL, biLstT, biIntI, biIntB, biAll, biAny, biSum, wback, and_true, true_and, beq_self_eq_true, Int.reduceBEq, s1]
  first | done | rfl | exact ⟨rfl, rfl⟩
theorem told_out (hW : 2 ^ 8000 ≤ W) {F : Fm} (h : Dr F) {n : Int} (h0 : n < 0 ∨ total F ≤ n) : callF cs T W (k + 5) 17 [.d (filmD F), .d (.int n)] st = .ok (.d (.tuple [.str "number", .int n])) st := by
  refine Ok.eq (okP (d := f17) rfl rfl rfl ?_)
  show Ok (outOf 0 (evSs cs (callF cs T W (k + 4)) W b17 [some (.d (filmD F)), some (.d (.int n)), none, none] [])) _
  have hl : F.length ≤ 1000 := by have := h.len; omega
  have s1 : ∀ st, callF cs T W (k + 4) 7 [.d (filmD F), .d (.int n)] st = .ex "NoNumber" [("number", .int n)] st := fun st => srcRaise (k := k + 3) (i := 7) (len := 3) (cut := 5) (shr := 6) (frm := 4) rfl (fun st => lenRun (k := k + 2) (i := 3) rfl hl) h0
  have w1 : ∀ st, callF cs T W (k + 4) 16 [.x "NoNumber" [("number", .int n)]] st = .ok (.d (.tuple [.str "number", .int n])) st := fun st => word_run (k := k + 3)
  unfold b17
  simp only [Ss_cons, Ss_nil, then_nx, then_ret, then_bk, then_ct, then_rtt, S_aug, aug_g, aug_add, aug_sub, S_rett, S_rais, S_tryx, E_isx, E_fld, I_enu, I_ezip, kEzip, I_chr, chr_at, E_callk, kCk1_at, calm_k, ok_calm, outK_rtt, S_expr, kNx, S_asg, S_par, S_put, kPut1_at, kPut2_at, S_dput, kDput1_at, kDput2_at, S_ifs, kIfs, selS_tt, selS_ff, S_for, kFor_at, S_ret, kRet, S_pass, S_brk, S_cnt, setTo, parTo, putTo, E_var, get_v, E_int, E_bl, E_non, E_str, E_cst, E_bin, kBin, bin2, bin3_at, bin4, E_neg, neg_v, E_nt, ntV, notB_t, notB_f, E_cmp, kCmp, cmp2, cmp3_at, cmp4, E_cmp2, kChain, chainC, chain3, chain4, selC_tt, selC_ff, E_and, kAnd, selA_tt, selA_ff, E_or, kOr, selO_tt, selO_ff, E_ifx, kIfx, selE_tt, selE_ff, E_tup, mkT, E_lst, mkL, E_lstS, mkS, E_sub, kSub, sub2, sub3_at, sub4, E_slc, kSlc1, kSlc2, slc2, slc3, ptOf_at, ptK_t, ptK_f, isNilE, E_rev, revV, rev3_t, rev3_l, E_nil, E_own, ownV, E_call, kCall_at, E_bi, kBi, bi3, E_isin, kIsin, isin3, E_lc, kLc_at, lcEnd_t, lcEnd_f, E_mth, kMth_at, selM_t, Es_nil, Es_cons, kEs, kEs2, I_val, I_1, I_2, kI2, I_3, kI3, kI3b, I_zip, kZip, E_lzip, kLz, kTurn, selT_tt, selT_ff, srcL, srcT, forS_fix, lcS_fix, bnd_k, ok_ok, ok_bnd, okK_at, out_at, outK_ret, outK_nx, backK_d, asD, rd, asDs, lift_some, tru, truD, intV, isTy, sG1, sG2, sG3, sG4, setPar, Option.bind_some, Option.map_some, List.set_cons_zero, List.set_cons_succ, List.getElem?_cons_zero, List.getElem?_cons_succ, dAll, List.length_cons, List.length_nil, Nat.zero_add, Nat.reduceAdd, Nat.reduceLeDiff, Nat.reduceLT, Nat.reduceMul, sz0, sz1, sz2, sz3, sz4, sz5, sy0, sy1, sy2, sy3, sy4, if_true, List.nil_append, List.cons_append, isLst, mthD, addI, subI, subL, subT, at0, at1, at2, at3, cLt, cLe, cGt, cGe, cEqI, cNeI, cEqS, cNeS, decide_true, decide_false, Int.reduceLT, Int.reduceLE, Int.reduceSub, Int.reduceAdd, Int.reduceNeg, Int.reduceToNat, Int.cast_ofNat_Int, Bool.not_true, Bool.not_false, keepD, wipeE, biLenL, biLenT, biAbs, biRepr, biMin, biMax, biTupL, biTupT, biLstL, biLstT, biIntI, biIntB, biAll, biAny, biSum, wback, and_true, true_and, beq_self_eq_true, Int.reduceBEq]
  refine try_ex (c := "NoNumber") (fs := [("number", .int n)]) (P := fun s => s = []) ?_ fun s hs => ?_
  · rw [s1, bnd_x, bnd_x, bnd_x, bnd_x]
    exact xo_at rfl
  · subst hs
    unfold kTry
    rw [H_hit n10]
    simp only [Ss_cons, Ss_nil, then_nx, then_ret, then_bk, then_ct, then_rtt, S_aug, aug_g, aug_add, aug_sub, S_rett, S_rais, S_tryx, E_isx, E_fld, I_enu, I_ezip, kEzip, I_chr, chr_at, E_callk, kCk1_at, calm_k, ok_calm, outK_rtt, S_expr, kNx, S_asg, S_par, S_put, kPut1_at, kPut2_at, S_dput, kDput1_at, kDput2_at, S_ifs, kIfs, selS_tt, selS_ff, S_for, kFor_at, S_ret, kRet, S_pass, S_brk, S_cnt, setTo, parTo, putTo, E_var, get_v, E_int, E_bl, E_non, E_str, E_cst, E_bin, kBin, bin2, bin3_at, bin4, E_neg, neg_v, E_nt, ntV, notB_t, notB_f, E_cmp, kCmp, cmp2, cmp3_at, cmp4, E_cmp2, kChain, chainC, chain3, chain4, selC_tt, selC_ff, E_and, kAnd, selA_tt, selA_ff, E_or, kOr, selO_tt, selO_ff, E_ifx, kIfx, selE_tt, selE_ff, E_tup, mkT, E_lst, mkL, E_lstS, mkS, E_sub, kSub, sub2, sub3_at, sub4, E_slc, kSlc1, kSlc2, slc2, slc3, ptOf_at, ptK_t, ptK_f, isNilE, E_rev, revV, rev3_t, rev3_l, E_nil, E_own, ownV, E_call, kCall_at, E_bi, kBi, bi3, E_isin, kIsin, isin3, E_lc, kLc_at, lcEnd_t, lcEnd_f, E_mth, kMth_at, selM_t, Es_nil, Es_cons, kEs, kEs2, I_val, I_1, I_2, kI2, I_3, kI3, kI3b, I_zip, kZip, E_lzip, kLz, kTurn, selT_tt, selT_ff, srcL, srcT, forS_fix, lcS_fix, bnd_k, ok_ok, ok_bnd, okK_at, out_at, outK_ret, outK_nx, backK_d, asD, rd, asDs, lift_some, tru, truD, intV, isTy, sG1, sG2, sG3, sG4, setPar, Option.bind_some, Option.map_some, List.set_cons_zero, List.set_cons_succ, List.getElem?_cons_zero, List.getElem?_cons_succ, dAll, List.length_cons, List.length_nil, Nat.zero_add, Nat.reduceAdd, Nat.reduceLeDiff, Nat.reduceLT, Nat.reduceMul, sz0, sz1, sz2, sz3, sz4, sz5, sy0, sy1, sy2, sy3, sy4, if_true, List.nil_append, List.cons_append, isLst, mthD, addI, subI, subL, subT, at0, at1, at2, at3, cLt, cLe, cGt, cGe, cEqI, cNeI, cEqS, cNeS, decide_true, decide_false, Int.reduceLT, Int.reduceLE, Int.reduceSub, Int.reduceAdd, Int.reduceNeg, Int.reduceToNat, Int.cast_ofNat_Int, Bool.not_true, Bool.not_false, keepD, wipeE, biLenL, biLenT, biAbs, biRepr, biMin, biMax, biTupL, biTupT, biLstL, biLstT, biIntI, biIntB, biAll, biAny, biSum, wback, and_true, true_and, beq_self_eq_true, Int.reduceBEq, namedE, w1, fin_at (i := some 3) (fl := .nx [some (.d (filmD F)), some (.d (.int n)), some (.d (.tuple [.str "number", .int n])), some (.x "NoNumber" [("number", .int n)])]) rfl, goneF]
    first | done | rfl | exact ⟨rfl, rfl⟩
theorem begs_le : ∀ (F : Fm) (b : Int), (∀ p ∈ F, 0 ≤ p.1.m - p.2 ∧ p.1.m - p.2 ≤ 9) → (∀ x ∈ begins b F, b ≤ x ∧ x ≤ b + 9 * F.length) ∧ 0 ≤ total F ∧ total F ≤ 9 * F.length
  | [], b, _ => ⟨fun x hx => (nomatch hx), by simp [total], by simp [total]⟩
  | p :: F, b, h => by
    obtain ⟨h1, h2⟩ := h p List.mem_cons_self
    obtain ⟨i1, i2, i3⟩ := begs_le F (b + (p.1.m - p.2)) fun q hq => h q (List.mem_cons_of_mem _ hq)
    rw [total_cons]
    simp only [List.length_cons]
    refine ⟨fun x hx => ?_, by omega, by omega⟩
    unfold begins at hx
    rcases List.mem_cons.mp hx with e | e
    · omega
    · have := i1 x e
      omega
theorem Dr.bnd {F : Fm} (h : Dr F) : (∀ x ∈ begins 0 F, 0 ≤ x ∧ x ≤ 54) ∧ 0 ≤ total F ∧ total F ≤ 54 := by
  obtain ⟨i1, i2, i3⟩ := begs_le F 0 fun p hp => by
    have a := h.fits.all p hp
    have b := (h.gc p hp).m1
    omega
  have := h.len
  exact ⟨fun x hx => by have := i1 x hx; omega, i2, by omega⟩
def fitS (x : Str) : Bool := fine (.str x) && decide ((PyData.str x).depth ≤ 0) && decide (nd (.str x) ≤ 1) && (PyData.str x).canLay0
theorem fitS_ok {x : Str} (h : fitS x = true) : Fit 1 0 (.str x) := by
  simp only [fitS, Bool.and_eq_true, decide_eq_true_eq] at h
  exact ⟨h.1.1.1, h.1.1.2, h.1.2, h.2⟩
theorem pool_fit : ∀ s ∈ (["a", "b", "cc"] : List Str), Fit 1 0 (.str s) := fun s hs => fitS_ok (List.all_eq_true.mp (show (["a", "b", "cc"] : List Str).all fitS = true by decide +kernel) s hs)
theorem told_fit : Fit 1 0 (.str "told") := fitS_ok (by decide +kernel)
theorem num_fit : Fit 1 0 (.str "number") := fitS_ok (by decide +kernel)
theorem i60 {i : Int} (h : i.natAbs < 100) : i.natAbs < 2 ^ 60 := Nat.lt_of_lt_of_le h (by decide)
theorem Dr.film {F : Fm} (h : Dr F) : Fit 67 3 (filmD F) := fit_film h.len fun p hp => by
  have g := h.gc p hp
  have a := h.fits.all p hp
  have := g.f0
  have := g.f1
  have := g.m1
  refine fit_pc (pool_fit _ g.s) (i60 (by omega)) (i60 (by omega)) (i60 ?_) (i60 (by omega))
  rcases g.t with e | e <;> (rw [e]; decide)
theorem fit_ints {xs : List Int} {L : Nat} (hl : xs.length ≤ L) (h : ∀ x ∈ xs, x.natAbs < 100) : Fit (L * 1 + 1) 1 (.tuple (xs.map .int)) := by
  refine Fit.tup (fun x hx => ?_) (by simpa using hl)
  obtain ⟨i, hi, rfl⟩ := List.mem_map.mp hx
  exact Fit.int (p1000 (i60 (h i hi)))
theorem Dr.head {F : Fm} (h : Dr F) : Fit 20 2 (.list [.int (total F), .tuple ((begins 0 F).map .int)]) := by
  obtain ⟨b1, b2, b3⟩ := h.bnd
  refine (Fit.list (n := 7) (d := 1) (m := 2) (fun x hx => ?_) (by simp)).mono (by decide) (by decide)
  simp only [List.mem_cons, List.not_mem_nil, or_false] at hx
  rcases hx with rfl | rfl
  · exact (Fit.int (p1000 (i60 (by omega)))).mono (by decide) (by decide)
  · exact fit_ints (L := 6) (by rw [begins_len]; exact h.len) fun x hx => by have := b1 x hx; omega
theorem lap_run (hW : 2 ^ 8000 ≤ W) {n : Nat} {a v2 v3 v4 v5 v6 v7 : Option Vl} {o : Ob} (Fo : Fd (n + 37) o) : Ok (evSs cs (callF cs T W (k + 6)) W l18_2 [a, some (.r 0), v2, v3, v4, v5, v6, v7] [o]) fun fl st => ∃ v3 v4 v5 v6 v7 o', fl = .nx [a, some (.r 0), v2, v3, v4, v5, v6, v7] ∧ st = [o'] ∧ Fd n o' := by
  have rl : ∀ {Q : Vl → Sto → Prop}, (∀ R o', Fits 0 R → R.length ≤ 6 → (∀ p ∈ R, Gc ["a", "b", "cc"] p.1) → Fd n o' → Q (.d (filmD R)) [o']) → Ok (callF cs T W (k + 6) 13 [.r 0, .d (.int 6), .d (.tuple [.str "a", .str "b", .str "cc"])] [o]) Q := fun {Q} hQ =>
    reelOk (k := k + 3) (i := 13) (drw := 9) (slc := 12) (n := n) (L := 6) (pool := ["a", "b", "cc"]) (rest := []) rfl rfl rfl (by decide) (by decide) (by decide) Fo hQ
  unfold l18_2
  simp only [Ss_cons, Ss_nil, then_nx, then_ret, then_bk, then_ct, then_rtt, S_aug, aug_g, aug_add, aug_sub, S_rett, S_rais, S_tryx, E_isx, E_fld, I_enu, I_ezip, kEzip, I_chr, chr_at, E_callk, kCk1_at, calm_k, ok_calm, outK_rtt, S_expr, kNx, S_asg, S_par, S_put, kPut1_at, kPut2_at, S_dput, kDput1_at, kDput2_at, S_ifs, kIfs, selS_tt, selS_ff, S_for, kFor_at, S_ret, kRet, S_pass, S_brk, S_cnt, setTo, parTo, putTo, E_var, get_v, E_int, E_bl, E_non, E_str, E_cst, E_bin, kBin, bin2, bin3_at, bin4, E_neg, neg_v, E_nt, ntV, notB_t, notB_f, E_cmp, kCmp, cmp2, cmp3_at, cmp4, E_cmp2, kChain, chainC, chain3, chain4, selC_tt, selC_ff, E_and, kAnd, selA_tt, selA_ff, E_or, kOr, selO_tt, selO_ff, E_ifx, kIfx, selE_tt, selE_ff, E_tup, mkT, E_lst, mkL, E_lstS, mkS, E_sub, kSub, sub2, sub3_at, sub4, E_slc, kSlc1, kSlc2, slc2, slc3, ptOf_at, ptK_t, ptK_f, isNilE, E_rev, revV, rev3_t, rev3_l, E_nil, E_own, ownV, E_call, kCall_at, E_bi, kBi, bi3, E_isin, kIsin, isin3, E_lc, kLc_at, lcEnd_t, lcEnd_f, E_mth, kMth_at, selM_t, Es_nil, Es_cons, kEs, kEs2, I_val, I_1, I_2, kI2, I_3, kI3, kI3b, I_zip, kZip, E_lzip, kLz, kTurn, selT_tt, selT_ff, srcL, srcT, forS_fix, lcS_fix, bnd_k, ok_ok, ok_bnd, okK_at, out_at, outK_ret, outK_nx, backK_d, asD, rd, asDs, lift_some, tru, truD, intV, isTy, sG1, sG2, sG3, sG4, setPar, Option.bind_some, Option.map_some, List.set_cons_zero, List.set_cons_succ, List.getElem?_cons_zero, List.getElem?_cons_succ, dAll, List.length_cons, List.length_nil, Nat.zero_add, Nat.reduceAdd, Nat.reduceLeDiff, Nat.reduceLT, Nat.reduceMul, sz0, sz1, sz2, sz3, sz4, sz5, sy0, sy1, sy2, sy3, sy4, if_true, List.nil_append, List.cons_append, isLst, mthD, addI, subI, subL, subT, at0, at1, at2, at3, cLt, cLe, cGt, cGe, cEqI, cNeI, cEqS, cNeS, decide_true, decide_false, Int.reduceLT, Int.reduceLE, Int.reduceSub, Int.reduceAdd, Int.reduceNeg, Int.reduceToNat, Int.cast_ofNat_Int, Bool.not_true, Bool.not_false, keepD, wipeE, biLenL, biLenT, biAbs, biRepr, biMin, biMax, biTupL, biTupT, biLstL, biLstT, biIntI, biIntB, biAll, biAny, biSum, wback, and_true, true_and, beq_self_eq_true, Int.reduceBEq]
  refine rl fun F o2 hf hl hg F2 => ?_
  have DD : Dr F := ⟨hf, hl, hg⟩
  obtain ⟨b1, b2, b3⟩ := DD.bnd
  have hl' : F.length ≤ 1000 := by omega
  have e0 : ∀ (x y z : PyData) (env : Envr), setG (.tup (.cons (.var 5) (.cons (.tup (.cons (.var 6) (.cons (.var 7) .nil))) .nil))) (.d (.tuple [x, .tuple [y, z]])) env = some (((env.set 5 (some (.d x))).set 6 (some (.d y))).set 7 (some (.d z))) := fun _ _ _ _ => rfl
  have r1 := fun st => staRun (cs := cs) (T := T) (W := W) (k := k + 5) (i := 14) rfl hl' (st := st)
  have r2 := fun st => lenRun (cs := cs) (T := T) (W := W) (k := k + 5) (i := 3) rfl hl' (st := st)
  have r3 := fun st => begRun (cs := cs) (T := T) (W := W) (k := k + 5) (i := 2) rfl hl' (st := st)
  have sm := fun (z : PyData) (s : Str) (hz : showD z = some (.str s)) (st : Sto) => sameRun (cs := cs) (T := T) (W := W) (k := k + 5) (i := 10) rfl hz st
  have s1 := sm _ _ DD.head.show
  simp only [Ss_cons, Ss_nil, then_nx, then_ret, then_bk, then_ct, then_rtt, S_aug, aug_g, aug_add, aug_sub, S_rett, S_rais, S_tryx, E_isx, E_fld, I_enu, I_ezip, kEzip, I_chr, chr_at, E_callk, kCk1_at, calm_k, ok_calm, outK_rtt, S_expr, kNx, S_asg, S_par, S_put, kPut1_at, kPut2_at, S_dput, kDput1_at, kDput2_at, S_ifs, kIfs, selS_tt, selS_ff, S_for, kFor_at, S_ret, kRet, S_pass, S_brk, S_cnt, setTo, parTo, putTo, E_var, get_v, E_int, E_bl, E_non, E_str, E_cst, E_bin, kBin, bin2, bin3_at, bin4, E_neg, neg_v, E_nt, ntV, notB_t, notB_f, E_cmp, kCmp, cmp2, cmp3_at, cmp4, E_cmp2, kChain, chainC, chain3, chain4, selC_tt, selC_ff, E_and, kAnd, selA_tt, selA_ff, E_or, kOr, selO_tt, selO_ff, E_ifx, kIfx, selE_tt, selE_ff, E_tup, mkT, E_lst, mkL, E_lstS, mkS, E_sub, kSub, sub2, sub3_at, sub4, E_slc, kSlc1, kSlc2, slc2, slc3, ptOf_at, ptK_t, ptK_f, isNilE, E_rev, revV, rev3_t, rev3_l, E_nil, E_own, ownV, E_call, kCall_at, E_bi, kBi, bi3, E_isin, kIsin, isin3, E_lc, kLc_at, lcEnd_t, lcEnd_f, E_mth, kMth_at, selM_t, Es_nil, Es_cons, kEs, kEs2, I_val, I_1, I_2, kI2, I_3, kI3, kI3b, I_zip, kZip, E_lzip, kLz, kTurn, selT_tt, selT_ff, srcL, srcT, forS_fix, lcS_fix, bnd_k, ok_ok, ok_bnd, okK_at, out_at, outK_ret, outK_nx, backK_d, asD, rd, asDs, lift_some, tru, truD, intV, isTy, sG1, sG2, sG3, sG4, setPar, Option.bind_some, Option.map_some, List.set_cons_zero, List.set_cons_succ, List.getElem?_cons_zero, List.getElem?_cons_succ, dAll, List.length_cons, List.length_nil, Nat.zero_add, Nat.reduceAdd, Nat.reduceLeDiff, Nat.reduceLT, Nat.reduceMul, sz0, sz1, sz2, sz3, sz4, sz5, sy0, sy1, sy2, sy3, sy4, if_true, List.nil_append, List.cons_append, isLst, mthD, addI, subI, subL, subT, at0, at1, at2, at3, cLt, cLe, cGt, cGe, cEqI, cNeI, cEqS, cNeS, decide_true, decide_false, Int.reduceLT, Int.reduceLE, Int.reduceSub, Int.reduceAdd, Int.reduceNeg, Int.reduceToNat, Int.cast_ofNat_Int, Bool.not_true, Bool.not_false, keepD, wipeE, biLenL, biLenT, biAbs, biRepr, biMin, biMax, biTupL, biTupT, biLstL, biLstT, biIntI, biIntB, biAll, biAny, biSum, wback, and_true, true_and, beq_self_eq_true, Int.reduceBEq, DD.film.show, r1, e0, r2, r3, s1, rng1_ok b2 (show total F < 2 ^ 62 by omega)]
  refine okFor (fun left env st => ∃ v4, env = [a, some (.r 0), v2, some (.d (filmD F)), v4, some (.d (.str (filmD F).shown)), some (.d (.list ((begins 0 F).map .int))), some (.d (.int (total F)))] ∧ st = [o2] ∧ ∀ x ∈ left, ∃ i : Int, x = .int i ∧ 0 ≤ i ∧ i < total F) ⟨_, rfl, rfl, fun x hx => ?_⟩ (fun x r env st ⟨v4, h1, h2, h3⟩ => ?_) fun env st ⟨v4, h1, h2, h3⟩ => ?_
  · obtain ⟨i, e1, e2, e3⟩ := rngs_nn _ _ x hx
    exact ⟨i, e1, e2, by omega⟩
  · subst h1 h2
    obtain ⟨i, rfl, i0, i1⟩ := h3 _ List.mem_cons_self
    have two := (places_two F 0 0 0 i hf i0 (by omega)).1
    have t1 := fun st => told_in (k := k + 1) (st := st) hW DD i0 i1
    have t2 := fun st => lsrRun (cs := cs) (T := T) (W := W) (k := k + 5) (i := 15) (sta := 14) (frc := 11) rfl DD.gf two (st := st) (fun st => staRun (k := k + 4) (i := 14) rfl hl') fun p u st hp => by
      have fa := hf.all p hp
      have g := (hg p hp).m1
      exact frcRun (k := k + 4) (i := 11) hW rfl u (p.2 + 1) st (by omega) (Nat.lt_of_lt_of_le (show _ < 100 by omega) (by decide))
    have fs : Fit 27 3 (.tuple (srcsL (places 0 0 i F) (shares (places 0 0 i F)))) := fit_srcs hf hg (by omega) places_ok two
    have ft : Fit 55 4 (.tuple [.str "told", .tuple (srcsL (places 0 0 i F) (shares (places 0 0 i F)))]) := by
      refine Fit.tup (n := 27) (d := 3) (m := 2) (fun x hx => ?_) (by simp)
      simp only [List.mem_cons, List.not_mem_nil, or_false] at hx
      rcases hx with rfl | rfl
      · exact told_fit.mono (by decide) (by decide)
      · exact fs
    have s2 := sm _ _ ft.show
    rw [turn_for rfl]
    unfold l18_0
    simp only [Ss_cons, Ss_nil, then_nx, then_ret, then_bk, then_ct, then_rtt, S_aug, aug_g, aug_add, aug_sub, S_rett, S_rais, S_tryx, E_isx, E_fld, I_enu, I_ezip, kEzip, I_chr, chr_at, E_callk, kCk1_at, calm_k, ok_calm, outK_rtt, S_expr, kNx, S_asg, S_par, S_put, kPut1_at, kPut2_at, S_dput, kDput1_at, kDput2_at, S_ifs, kIfs, selS_tt, selS_ff, S_for, kFor_at, S_ret, kRet, S_pass, S_brk, S_cnt, setTo, parTo, putTo, E_var, get_v, E_int, E_bl, E_non, E_str, E_cst, E_bin, kBin, bin2, bin3_at, bin4, E_neg, neg_v, E_nt, ntV, notB_t, notB_f, E_cmp, kCmp, cmp2, cmp3_at, cmp4, E_cmp2, kChain, chainC, chain3, chain4, selC_tt, selC_ff, E_and, kAnd, selA_tt, selA_ff, E_or, kOr, selO_tt, selO_ff, E_ifx, kIfx, selE_tt, selE_ff, E_tup, mkT, E_lst, mkL, E_lstS, mkS, E_sub, kSub, sub2, sub3_at, sub4, E_slc, kSlc1, kSlc2, slc2, slc3, ptOf_at, ptK_t, ptK_f, isNilE, E_rev, revV, rev3_t, rev3_l, E_nil, E_own, ownV, E_call, kCall_at, E_bi, kBi, bi3, E_isin, kIsin, isin3, E_lc, kLc_at, lcEnd_t, lcEnd_f, E_mth, kMth_at, selM_t, Es_nil, Es_cons, kEs, kEs2, I_val, I_1, I_2, kI2, I_3, kI3, kI3b, I_zip, kZip, E_lzip, kLz, kTurn, selT_tt, selT_ff, srcL, srcT, forS_fix, lcS_fix, bnd_k, ok_ok, ok_bnd, okK_at, out_at, outK_ret, outK_nx, backK_d, asD, rd, asDs, lift_some, tru, truD, intV, isTy, sG1, sG2, sG3, sG4, setPar, Option.bind_some, Option.map_some, List.set_cons_zero, List.set_cons_succ, List.getElem?_cons_zero, List.getElem?_cons_succ, dAll, List.length_cons, List.length_nil, Nat.zero_add, Nat.reduceAdd, Nat.reduceLeDiff, Nat.reduceLT, Nat.reduceMul, sz0, sz1, sz2, sz3, sz4, sz5, sy0, sy1, sy2, sy3, sy4, if_true, List.nil_append, List.cons_append, isLst, mthD, addI, subI, subL, subT, at0, at1, at2, at3, cLt, cLe, cGt, cGe, cEqI, cNeI, cEqS, cNeS, decide_true, decide_false, Int.reduceLT, Int.reduceLE, Int.reduceSub, Int.reduceAdd, Int.reduceNeg, Int.reduceToNat, Int.cast_ofNat_Int, Bool.not_true, Bool.not_false, keepD, wipeE, biLenL, biLenT, biAbs, biRepr, biMin, biMax, biTupL, biTupT, biLstL, biLstT, biIntI, biIntB, biAll, biAny, biSum, wback, and_true, true_and, beq_self_eq_true, Int.reduceBEq, t1, t2, s2]
    exact ⟨_, rfl, fun x hx => h3 x (List.mem_cons_of_mem _ hx)⟩
  · subst h1 h2
    have e30 : binD .pow (.int 10) (.int 30) = some (.int (10 ^ 30)) := rfl
    simp only [Ss_cons, Ss_nil, then_nx, then_ret, then_bk, then_ct, then_rtt, S_aug, aug_g, aug_add, aug_sub, S_rett, S_rais, S_tryx, E_isx, E_fld, I_enu, I_ezip, kEzip, I_chr, chr_at, E_callk, kCk1_at, calm_k, ok_calm, outK_rtt, S_expr, kNx, S_asg, S_par, S_put, kPut1_at, kPut2_at, S_dput, kDput1_at, kDput2_at, S_ifs, kIfs, selS_tt, selS_ff, S_for, kFor_at, S_ret, kRet, S_pass, S_brk, S_cnt, setTo, parTo, putTo, E_var, get_v, E_int, E_bl, E_non, E_str, E_cst, E_bin, kBin, bin2, bin3_at, bin4, E_neg, neg_v, E_nt, ntV, notB_t, notB_f, E_cmp, kCmp, cmp2, cmp3_at, cmp4, E_cmp2, kChain, chainC, chain3, chain4, selC_tt, selC_ff, E_and, kAnd, selA_tt, selA_ff, E_or, kOr, selO_tt, selO_ff, E_ifx, kIfx, selE_tt, selE_ff, E_tup, mkT, E_lst, mkL, E_lstS, mkS, E_sub, kSub, sub2, sub3_at, sub4, E_slc, kSlc1, kSlc2, slc2, slc3, ptOf_at, ptK_t, ptK_f, isNilE, E_rev, revV, rev3_t, rev3_l, E_nil, E_own, ownV, E_call, kCall_at, E_bi, kBi, bi3, E_isin, kIsin, isin3, E_lc, kLc_at, lcEnd_t, lcEnd_f, E_mth, kMth_at, selM_t, Es_nil, Es_cons, kEs, kEs2, I_val, I_1, I_2, kI2, I_3, kI3, kI3b, I_zip, kZip, E_lzip, kLz, kTurn, selT_tt, selT_ff, srcL, srcT, forS_fix, lcS_fix, bnd_k, ok_ok, ok_bnd, okK_at, out_at, outK_ret, outK_nx, backK_d, asD, rd, asDs, lift_some, tru, truD, intV, isTy, sG1, sG2, sG3, sG4, setPar, Option.bind_some, Option.map_some, List.set_cons_zero, List.set_cons_succ, List.getElem?_cons_zero, List.getElem?_cons_succ, dAll, List.length_cons, List.length_nil, Nat.zero_add, Nat.reduceAdd, Nat.reduceLeDiff, Nat.reduceLT, Nat.reduceMul, sz0, sz1, sz2, sz3, sz4, sz5, sy0, sy1, sy2, sy3, sy4, if_true, List.nil_append, List.cons_append, isLst, mthD, addI, subI, subL, subT, at0, at1, at2, at3, cLt, cLe, cGt, cGe, cEqI, cNeI, cEqS, cNeS, decide_true, decide_false, Int.reduceLT, Int.reduceLE, Int.reduceSub, Int.reduceAdd, Int.reduceNeg, Int.reduceToNat, Int.cast_ofNat_Int, Bool.not_true, Bool.not_false, keepD, wipeE, biLenL, biLenT, biAbs, biRepr, biMin, biMax, biTupL, biTupT, biLstL, biLstT, biIntI, biIntB, biAll, biAny, biSum, wback, and_true, true_and, beq_self_eq_true, Int.reduceBEq, e30]
    refine okFor (fun left env st => ∃ v4, env = [a, some (.r 0), v2, some (.d (filmD F)), v4, some (.d (.str (filmD F).shown)), some (.d (.list ((begins 0 F).map .int))), some (.d (.int (total F)))] ∧ st = [o2] ∧ ∀ x ∈ left, ∃ i : Int, x = .int i ∧ (i < 0 ∨ total F ≤ i) ∧ i.natAbs < 2 ^ 200) ⟨_, rfl, rfl, fun x hx => ?_⟩ (fun x r env st ⟨v4, h1, h2, h3⟩ => ?_) fun env st ⟨v4, h1, h2, h3⟩ => ?_
    · simp only [List.mem_cons, List.not_mem_nil, or_false] at hx
      rcases hx with rfl | rfl | rfl | rfl
      · exact ⟨_, rfl, .inl (by omega), by decide⟩
      · exact ⟨_, rfl, .inr (by omega), by omega⟩
      · exact ⟨_, rfl, .inr (by omega), by omega⟩
      · exact ⟨_, rfl, .inr (by omega), by decide⟩
    · subst h1 h2
      obtain ⟨i, rfl, i0, i1⟩ := h3 _ List.mem_cons_self
      have t1 := fun st => told_out (k := k + 1) (st := st) hW DD i0
      have ft : Fit 3 1 (.tuple [.str "number", .int i]) := by
        refine Fit.tup (n := 1) (d := 0) (m := 2) (fun x hx => ?_) (by simp)
        simp only [List.mem_cons, List.not_mem_nil, or_false] at hx
        rcases hx with rfl | rfl
        · exact num_fit
        · exact Fit.int (Nat.lt_of_lt_of_le i1 (Nat.pow_le_pow_right (by decide) (by decide)))
      have ne : cmpD .ne (.tuple [.str "number", .int i]) (.tuple [.str "number", .int i]) = some false := neSame ft.shaped
      rw [turn_for rfl]
      unfold l18_1
      simp only [Ss_cons, Ss_nil, then_nx, then_ret, then_bk, then_ct, then_rtt, S_aug, aug_g, aug_add, aug_sub, S_rett, S_rais, S_tryx, E_isx, E_fld, I_enu, I_ezip, kEzip, I_chr, chr_at, E_callk, kCk1_at, calm_k, ok_calm, outK_rtt, S_expr, kNx, S_asg, S_par, S_put, kPut1_at, kPut2_at, S_dput, kDput1_at, kDput2_at, S_ifs, kIfs, selS_tt, selS_ff, S_for, kFor_at, S_ret, kRet, S_pass, S_brk, S_cnt, setTo, parTo, putTo, E_var, get_v, E_int, E_bl, E_non, E_str, E_cst, E_bin, kBin, bin2, bin3_at, bin4, E_neg, neg_v, E_nt, ntV, notB_t, notB_f, E_cmp, kCmp, cmp2, cmp3_at, cmp4, E_cmp2, kChain, chainC, chain3, chain4, selC_tt, selC_ff, E_and, kAnd, selA_tt, selA_ff, E_or, kOr, selO_tt, selO_ff, E_ifx, kIfx, selE_tt, selE_ff, E_tup, mkT, E_lst, mkL, E_lstS, mkS, E_sub, kSub, sub2, sub3_at, sub4, E_slc, kSlc1, kSlc2, slc2, slc3, ptOf_at, ptK_t, ptK_f, isNilE, E_rev, revV, rev3_t, rev3_l, E_nil, E_own, ownV, E_call, kCall_at, E_bi, kBi, bi3, E_isin, kIsin, isin3, E_lc, kLc_at, lcEnd_t, lcEnd_f, E_mth, kMth_at, selM_t, Es_nil, Es_cons, kEs, kEs2, I_val, I_1, I_2, kI2, I_3, kI3, kI3b, I_zip, kZip, E_lzip, kLz, kTurn, selT_tt, selT_ff, srcL, srcT, forS_fix, lcS_fix, bnd_k, ok_ok, ok_bnd, okK_at, out_at, outK_ret, outK_nx, backK_d, asD, rd, asDs, lift_some, tru, truD, intV, isTy, sG1, sG2, sG3, sG4, setPar, Option.bind_some, Option.map_some, List.set_cons_zero, List.set_cons_succ, List.getElem?_cons_zero, List.getElem?_cons_succ, dAll, List.length_cons, List.length_nil, Nat.zero_add, Nat.reduceAdd, Nat.reduceLeDiff, Nat.reduceLT, Nat.reduceMul, sz0, sz1, sz2, sz3, sz4, sz5, sy0, sy1, sy2, sy3, sy4, if_true, List.nil_append, List.cons_append, isLst, mthD, addI, subI, subL, subT, at0, at1, at2, at3, cLt, cLe, cGt, cGe, cEqI, cNeI, cEqS, cNeS, decide_true, decide_false, Int.reduceLT, Int.reduceLE, Int.reduceSub, Int.reduceAdd, Int.reduceNeg, Int.reduceToNat, Int.cast_ofNat_Int, Bool.not_true, Bool.not_false, keepD, wipeE, biLenL, biLenT, biAbs, biRepr, biMin, biMax, biTupL, biTupT, biLstL, biLstT, biIntI, biIntB, biAll, biAny, biSum, wback, and_true, true_and, beq_self_eq_true, Int.reduceBEq, t1, ne]
      exact ⟨_, rfl, fun x hx => h3 x (List.mem_cons_of_mem _ hx)⟩
    · subst h1 h2
      simp only [Ss_cons, Ss_nil, then_nx, then_ret, then_bk, then_ct, then_rtt, S_aug, aug_g, aug_add, aug_sub, S_rett, S_rais, S_tryx, E_isx, E_fld, I_enu, I_ezip, kEzip, I_chr, chr_at, E_callk, kCk1_at, calm_k, ok_calm, outK_rtt, S_expr, kNx, S_asg, S_par, S_put, kPut1_at, kPut2_at, S_dput, kDput1_at, kDput2_at, S_ifs, kIfs, selS_tt, selS_ff, S_for, kFor_at, S_ret, kRet, S_pass, S_brk, S_cnt, setTo, parTo, putTo, E_var, get_v, E_int, E_bl, E_non, E_str, E_cst, E_bin, kBin, bin2, bin3_at, bin4, E_neg, neg_v, E_nt, ntV, notB_t, notB_f, E_cmp, kCmp, cmp2, cmp3_at, cmp4, E_cmp2, kChain, chainC, chain3, chain4, selC_tt, selC_ff, E_and, kAnd, selA_tt, selA_ff, E_or, kOr, selO_tt, selO_ff, E_ifx, kIfx, selE_tt, selE_ff, E_tup, mkT, E_lst, mkL, E_lstS, mkS, E_sub, kSub, sub2, sub3_at, sub4, E_slc, kSlc1, kSlc2, slc2, slc3, ptOf_at, ptK_t, ptK_f, isNilE, E_rev, revV, rev3_t, rev3_l, E_nil, E_own, ownV, E_call, kCall_at, E_bi, kBi, bi3, E_isin, kIsin, isin3, E_lc, kLc_at, lcEnd_t, lcEnd_f, E_mth, kMth_at, selM_t, Es_nil, Es_cons, kEs, kEs2, I_val, I_1, I_2, kI2, I_3, kI3, kI3b, I_zip, kZip, E_lzip, kLz, kTurn, selT_tt, selT_ff, srcL, srcT, forS_fix, lcS_fix, bnd_k, ok_ok, ok_bnd, okK_at, out_at, outK_ret, outK_nx, backK_d, asD, rd, asDs, lift_some, tru, truD, intV, isTy, sG1, sG2, sG3, sG4, setPar, Option.bind_some, Option.map_some, List.set_cons_zero, List.set_cons_succ, List.getElem?_cons_zero, List.getElem?_cons_succ, dAll, List.length_cons, List.length_nil, Nat.zero_add, Nat.reduceAdd, Nat.reduceLeDiff, Nat.reduceLT, Nat.reduceMul, sz0, sz1, sz2, sz3, sz4, sz5, sy0, sy1, sy2, sy3, sy4, if_true, List.nil_append, List.cons_append, isLst, mthD, addI, subI, subL, subT, at0, at1, at2, at3, cLt, cLe, cGt, cGe, cEqI, cNeI, cEqS, cNeS, decide_true, decide_false, Int.reduceLT, Int.reduceLE, Int.reduceSub, Int.reduceAdd, Int.reduceNeg, Int.reduceToNat, Int.cast_ofNat_Int, Bool.not_true, Bool.not_false, keepD, wipeE, biLenL, biLenT, biAbs, biRepr, biMin, biMax, biTupL, biTupT, biLstL, biLstT, biIntI, biIntB, biAll, biAny, biSum, wback, and_true, true_and, beq_self_eq_true, Int.reduceBEq, DD.film.show]
      exact ⟨_, _, _, _, _, o2, rfl, rfl, F2⟩
theorem law_run (hW : 2 ^ 8000 ≤ W) {ns : List Int} : Ok (callF cs T W (k + 7) 18 [.d (.list (ns.map .int))] []) fun v _ => v = .d (.bool true) := by
  obtain ⟨o, Fo, e5⟩ := feedRun (cs := cs) (T := T) (W := W) (k := k + 5) (i := 8) (nm := "_law_feed") (x := "_law_script") rfl (ns := ns)
  refine okP (d := f18) rfl rfl rfl ?_
  show Ok (outOf 0 (evSs cs (callF cs T W (k + 6)) W b18 [some (.d (.list (ns.map .int))), none, none, none, none, none, none, none] [])) _
  rw [b18_eq]
  have z1 : callF cs T W (k + 6) 3 [.d (.tuple [])] = fun st => .ok (.d (.int 0)) st := funext fun st => lenRun (k := k + 5) (i := 3) rfl (F := []) (by decide)
  have z2 : callF cs T W (k + 6) 2 [.d (.tuple [])] = fun st => .ok (.d (.tuple [])) st := funext fun st => begRun (k := k + 5) (i := 2) rfl (F := []) (by decide)
  have z3 : cmpD .eq (.tuple []) (.tuple []) = some true := by decide +kernel
  simp only [s18_0, s18_1, s18_2, Ss_cons, Ss_nil, then_nx, then_ret, then_bk, then_ct, then_rtt, S_aug, aug_g, aug_add, aug_sub, S_rett, S_rais, S_tryx, E_isx, E_fld, I_enu, I_ezip, kEzip, I_chr, chr_at, E_callk, kCk1_at, calm_k, ok_calm, outK_rtt, S_expr, kNx, S_asg, S_par, S_put, kPut1_at, kPut2_at, S_dput, kDput1_at, kDput2_at, S_ifs, kIfs, selS_tt, selS_ff, S_for, kFor_at, S_ret, kRet, S_pass, S_brk, S_cnt, setTo, parTo, putTo, E_var, get_v, E_int, E_bl, E_non, E_str, E_cst, E_bin, kBin, bin2, bin3_at, bin4, E_neg, neg_v, E_nt, ntV, notB_t, notB_f, E_cmp, kCmp, cmp2, cmp3_at, cmp4, E_cmp2, kChain, chainC, chain3, chain4, selC_tt, selC_ff, E_and, kAnd, selA_tt, selA_ff, E_or, kOr, selO_tt, selO_ff, E_ifx, kIfx, selE_tt, selE_ff, E_tup, mkT, E_lst, mkL, E_lstS, mkS, E_sub, kSub, sub2, sub3_at, sub4, E_slc, kSlc1, kSlc2, slc2, slc3, ptOf_at, ptK_t, ptK_f, isNilE, E_rev, revV, rev3_t, rev3_l, E_nil, E_own, ownV, E_call, kCall_at, E_bi, kBi, bi3, E_isin, kIsin, isin3, E_lc, kLc_at, lcEnd_t, lcEnd_f, E_mth, kMth_at, selM_t, Es_nil, Es_cons, kEs, kEs2, I_val, I_1, I_2, kI2, I_3, kI3, kI3b, I_zip, kZip, E_lzip, kLz, kTurn, selT_tt, selT_ff, srcL, srcT, forS_fix, lcS_fix, bnd_k, ok_ok, ok_bnd, okK_at, out_at, outK_ret, outK_nx, backK_d, asD, rd, asDs, lift_some, tru, truD, intV, isTy, sG1, sG2, sG3, sG4, setPar, Option.bind_some, Option.map_some, List.set_cons_zero, List.set_cons_succ, List.getElem?_cons_zero, List.getElem?_cons_succ, dAll, List.length_cons, List.length_nil, Nat.zero_add, Nat.reduceAdd, Nat.reduceLeDiff, Nat.reduceLT, Nat.reduceMul, sz0, sz1, sz2, sz3, sz4, sz5, sy0, sy1, sy2, sy3, sy4, if_true, List.nil_append, List.cons_append, isLst, mthD, addI, subI, subL, subT, at0, at1, at2, at3, cLt, cLe, cGt, cGe, cEqI, cNeI, cEqS, cNeS, decide_true, decide_false, Int.reduceLT, Int.reduceLE, Int.reduceSub, Int.reduceAdd, Int.reduceNeg, Int.reduceToNat, Int.cast_ofNat_Int, Bool.not_true, Bool.not_false, keepD, wipeE, biLenL, biLenT, biAbs, biRepr, biMin, biMax, biTupL, biTupT, biLstL, biLstT, biIntI, biIntB, biAll, biAny, biSum, wback, and_true, true_and, beq_self_eq_true, Int.reduceBEq, e5, rng1_ok (j := 6) (by decide) (by decide)]
  refine okFor (fun left env st => (∃ v2 v3 v4 v5 v6 v7, env = [some (.d (.list (ns.map .int))), some (.r 0), v2, v3, v4, v5, v6, v7]) ∧ ∃ o', st = [o'] ∧ Fd (37 * left.length) o') ⟨⟨_, _, _, _, _, _, rfl⟩, o, rfl, Fo.mono (by simp [rngs])⟩ (fun x l env st ⟨⟨v2, v3, v4, v5, v6, v7, h1⟩, o', h2, h3⟩ => ?_) fun env st ⟨⟨v2, v3, v4, v5, v6, v7, h1⟩, o', h2, h3⟩ => ?_
  · subst h1 h2
    rw [turn_for rfl]
    refine (lap_run (k := k) (n := 37 * l.length) hW (h3.mono (by simp; omega))).mono ?_
    rintro fl st ⟨v3, v4, v5, v6, v7, o2, rfl, rfl, F2⟩
    exact ⟨⟨_, _, _, _, _, _, rfl⟩, o2, rfl, F2⟩
  · subst h1 h2
    simp only [Ss_cons, Ss_nil, then_nx, then_ret, then_bk, then_ct, then_rtt, S_aug, aug_g, aug_add, aug_sub, S_rett, S_rais, S_tryx, E_isx, E_fld, I_enu, I_ezip, kEzip, I_chr, chr_at, E_callk, kCk1_at, calm_k, ok_calm, outK_rtt, S_expr, kNx, S_asg, S_par, S_put, kPut1_at, kPut2_at, S_dput, kDput1_at, kDput2_at, S_ifs, kIfs, selS_tt, selS_ff, S_for, kFor_at, S_ret, kRet, S_pass, S_brk, S_cnt, setTo, parTo, putTo, E_var, get_v, E_int, E_bl, E_non, E_str, E_cst, E_bin, kBin, bin2, bin3_at, bin4, E_neg, neg_v, E_nt, ntV, notB_t, notB_f, E_cmp, kCmp, cmp2, cmp3_at, cmp4, E_cmp2, kChain, chainC, chain3, chain4, selC_tt, selC_ff, E_and, kAnd, selA_tt, selA_ff, E_or, kOr, selO_tt, selO_ff, E_ifx, kIfx, selE_tt, selE_ff, E_tup, mkT, E_lst, mkL, E_lstS, mkS, E_sub, kSub, sub2, sub3_at, sub4, E_slc, kSlc1, kSlc2, slc2, slc3, ptOf_at, ptK_t, ptK_f, isNilE, E_rev, revV, rev3_t, rev3_l, E_nil, E_own, ownV, E_call, kCall_at, E_bi, kBi, bi3, E_isin, kIsin, isin3, E_lc, kLc_at, lcEnd_t, lcEnd_f, E_mth, kMth_at, selM_t, Es_nil, Es_cons, kEs, kEs2, I_val, I_1, I_2, kI2, I_3, kI3, kI3b, I_zip, kZip, E_lzip, kLz, kTurn, selT_tt, selT_ff, srcL, srcT, forS_fix, lcS_fix, bnd_k, ok_ok, ok_bnd, okK_at, out_at, outK_ret, outK_nx, backK_d, asD, rd, asDs, lift_some, tru, truD, intV, isTy, sG1, sG2, sG3, sG4, setPar, Option.bind_some, Option.map_some, List.set_cons_zero, List.set_cons_succ, List.getElem?_cons_zero, List.getElem?_cons_succ, dAll, List.length_cons, List.length_nil, Nat.zero_add, Nat.reduceAdd, Nat.reduceLeDiff, Nat.reduceLT, Nat.reduceMul, sz0, sz1, sz2, sz3, sz4, sz5, sy0, sy1, sy2, sy3, sy4, if_true, List.nil_append, List.cons_append, isLst, mthD, addI, subI, subL, subT, at0, at1, at2, at3, cLt, cLe, cGt, cGe, cEqI, cNeI, cEqS, cNeS, decide_true, decide_false, Int.reduceLT, Int.reduceLE, Int.reduceSub, Int.reduceAdd, Int.reduceNeg, Int.reduceToNat, Int.cast_ofNat_Int, Bool.not_true, Bool.not_false, keepD, wipeE, biLenL, biLenT, biAbs, biRepr, biMin, biMax, biTupL, biTupT, biLstL, biLstT, biIntI, biIntB, biAll, biAny, biSum, wback, and_true, true_and, beq_self_eq_true, Int.reduceBEq, z1, z2, z3]
theorem tells : ∀ ns : List Int, ns.length ≤ 63 → ∃ st, callF whole.cs (whole.rows.map (·.fd)) (2 ^ 8000) 40 18 [.d (.list (ns.map .int))] [] = .ok (.d (.bool true)) st := fun ns _ => by
  obtain ⟨v, st, e, rfl⟩ := (law_run (W := 2 ^ 8000) (k := 33) (Nat.le_refl _) (ns := ns)).ex
  exact ⟨st, e⟩
end Law
end
section
set_option maxRecDepth 100000
set_option maxHeartbeats 0
open PySem PySem.W PySem.Calls PyProof.Rows
theorem PySem.Challenge.cw_tiedscenes_k59_film_frames_holds : PySem.Challenge.rw_tiedscenes_k59_film_frames.Holds := by
  w_on; o_law
  refine HandSHeadRun.head_any (r := Law.R) (q := view Law.R.prog [34]) (H := Law.hk) (ob := Law.ob) (M := 20000) (loose := Law.loose) (d := HandSHeadRun.topDef Law.R.prog 34) (kwd := []) Law.ob_eq
    (by kernel_rfl) (fun s => by kernel_rfl) Law.run (by kernel_rfl) (by kernel_rfl) (by kernel_rfl) (by rfl) (by first | assumption | decide +kernel) (by decide +kernel) ⟨rfl, rfl, rfl, rfl, rfl, by decide +kernel⟩ ?hw ?hc
  case hw => w_witness2
  case hc =>
    exact Ev.law_end (l := PySem.Challenge.rw_tiedscenes_k59_film_frames) (k := 40) (W := 2 ^ 8000) (f := 18) (x := "_law_script") (g := Law.whole) (rL := Law.r18) rfl (by kernel_rfl) ⟨rfl, by decide, by decide⟩ rfl (by kernel_rfl) (by rfl) rfl rfl Law.okW Law.tells
end
