import PyProof.Rows.All
import Wide.All
import OpenK.AllK
import Wide.FinOn
import HandS.ForSpec
import HandS.Comp
import HandS.Text
import HandS.Dict
import HandS.Iter
import HandS.Codes
import HandS.Lambda
import HandS.ExcValue
import HandS.TupAny
import HandS.TupMul
import HandS.Deep
import HandS.IsInst
import HandS.RaiseMore
import HandS.Replace
import HandS.WordsExc
import HandS.ExcIs
import KE.KExcIs
import HandS.Small
import HandS.EndTab
import PySem.Challenge.RW_signsalone_k89_texts_of_rows
import PyProof.StrLawsTight
import PyProof.StrLawsChain
import PyProof.Rows.StrItems
import PyProof.StrLawsIn
import PyProof.ReprLen
import HandS.ExcSuper
import KE.KExcSuper
import KE.RegKSuper
section
set_option Elab.async false
set_option linter.all false
set_option maxRecDepth 100000
/-! Ev: a small evaluator by values. Data D, mutable objects by place (Mem), expressions E, statements S, and what they compute. -/
namespace Ev
open PySem L2

inductive D where
  | non | bl (b : Bool) | int (i : Int) | str (s : Str)
  | tup (xs : List D) | lst (xs : List D) | frz (xs : List D)
  | dK (kvs : List (Key × D)) | dT (kvs : List (List Key × D))
  | ins (C : Str) (fs : List (Str × D))
  | exc (C : Str) (fs : List (Str × D))
  | fn (x : Str)
  | loc (l : Nat)
instance : Inhabited D := ⟨.non⟩

/-- a mutable object -/
inductive MO where
  | lst (xs : List D) | dK (kvs : List (Key × D)) | ins (C : Str) (fs : List (Str × D))
abbrev Mem := List MO

inductive Res (α : Type) where
  | ok (a : α) (m : Mem)
  | exc (C : Str) (fs : List (Str × D)) (m : Mem)
  | bad
abbrev M (α : Type) := Mem → Res α
@[reducible] def ret {α : Type} (a : α) : M α := fun m => .ok a m
@[reducible] def stuck {α : Type} : M α := fun _ => .bad
def Res.bind {α β : Type} (r : Res α) (f : α → M β) : Res β :=
  match r with
  | .ok a m => f a m
  | .exc C fs m => .exc C fs m
  | .bad => .bad
@[reducible] def bnd {α β : Type} (x : M α) (f : α → M β) : M β := fun m => (x m).bind f
@[simp] theorem Res.bind_ok {α β : Type} (a : α) (m : Mem) (f : α → M β) : (Res.ok a m).bind f = f a m := rfl
@[simp] theorem Res.bind_exc {α β : Type} (C fs) (m : Mem) (f : α → M β) : (Res.exc C fs m : Res α).bind f = .exc C fs m := rfl
@[simp] theorem Res.bind_bad {α β : Type} (f : α → M β) : (Res.bad : Res α).bind f = .bad := rfl
/-- no exception may leave -/
def Res.calm {α : Type} : Res α → Res α
  | .exc _ _ _ => .bad
  | r => r
def lift {α : Type} : Option α → M α
  | some a => ret a
  | none => stuck
def guardM (b : Bool) {α : Type} (x : M α) : M α := fun m => if b = true then x m else .bad

/-- a slot: nothing, a value, an object that this frame alone holds -/
inductive Sl where
  | no | val (d : D) | own (d : D)
abbrev Env := List Sl

inductive BinK | add | sub | mul | mod | fdiv | pow
inductive CmpK | eq | ne | lt | le | gt | ge | isin | notin | is | isnot
inductive Blt | len | tuple | list | abs | int | max | min | all | any | sorted | sum | repr | str | dict
inductive Sm | split | join | sindex | lindex | count | get2
inductive Ty | int | bool | str | tuple | list | dict | cls (C : Str)

/-- targets -/
inductive G where
  | name (i : Nat) | tup (gs : List G)

mutual
inductive E where
  | var (i : Nat)
  | con (d : D)
  | bin (o : BinK) (a b : E)
  | neg (a : E)
  | not (a : E)
  | and (a b : E)
  | or (a b : E)
  | cmp (o : CmpK) (a b : E)
  | chain (o o' : CmpK) (a b c : E)
  | ife (t a b : E)
  | tup (es : List E)
  | lst (es : List E)
  | idx (a i : E)
  | sli (a lo hi : E)
  | fld (a : E) (f : Str)
  | call (f : Str) (es : List E)
  | callK (f : Str) (perm : List Nat) (es ks : List E)
  | blt (b : Blt) (es : List E)
  | isi (a : E) (T : Ty)
  | meth (s : Sm) (a : E) (es : List E)
  | comp (ow : List Nat) (g : G) (it : It) (cs : List E) (e : E)
  | comp2 (ow : List Nat) (g : G) (it : It) (cs : List E) (ow1 : List Nat) (g1 : G) (it1 : It) (cs1 : List E) (e : E)
  | newL (a : E)
  | dis (ks : List Key) (es : List E)
  | popL (a i : E)
  | popE (a : E)
  | appL (a e : E)
  | caught (e : E)
inductive It where
  | seq (a : E)
  | rng1 (a : E)
  | rng2 (a b : E)
  | zip (a b : E)
  | enum (a : E)
end

inductive S where
  | set (i : Nat) (e : E)
  | setOwn (i : Nat) (e : E)
  | asg (g : G) (e : E)
  | par (is : List Nat) (es : List E)
  | setI (a i e : E)
  | expr (e : E)
  | app (i : Nat) (e : E)
  | freeze (i : Nat)
  | ret (e : E)
  | retN
  | ife (t : E) (a b : List S)
  | for (g : G) (it : It) (b : List S)
  | whil (fuel : Nat) (t : E) (b : List S)
  | raise (C : Str) (es : List E)
  | cont | brk | pass

/-! ### what operators say -/
def line : Nat := 16777216
mutual
def toPy : D → Option PyData
  | .non => some .none
  | .bl b => some (.bool b)
  | .int i => some (.int i)
  | .str s => some (.str s)
  | .tup xs => (toPys xs).map .tuple
  | .lst xs => (toPys xs).map .list
  | _ => none
def toPys : List D → Option (List PyData)
  | [] => some []
  | d :: ds => match toPy d, toPys ds with
    | some x, some xs => some (x :: xs)
    | _, _ => none
end
def eqD (a b : D) : Option Bool :=
  match toPy a, toPy b with
  | some x, some y => if SeqAt.shaped x && SeqAt.shaped y then some (PyData.eqv x y) else none
  | _, _ => none
def mulOk (i j : Int) : Bool := decide (i.natAbs < 2 ^ 64) || decide (j.natAbs < 2 ^ 64)
def binD : BinK → D → D → Option D
  | .add, .int i, .int j => some (.int (i + j))
  | .sub, .int i, .int j => some (.int (i - j))
  | .mul, .int i, .int j => if mulOk i j then some (.int (i * j)) else none
  | .mod, .int i, .int j => if j = 0 then none else some (.int (i.fmod j))
  | .fdiv, .int i, .int j => if j ≠ 0 ∧ j.natAbs < 1073741824 then some (.int (i.fdiv j)) else none
  | .pow, .int i, .int j => if 0 ≤ j ∧ j ≤ 1000000 ∧ i.natAbs < 2 ^ 64 then some (.int (i ^ j.toNat)) else none
  | .add, .str s, .str t => if s.length + t.length ≤ line then some (.str (s ++ t)) else none
  | .add, .tup xs, .tup ys => if xs.length + ys.length ≤ line then some (.tup (xs ++ ys)) else none
  | .add, .lst xs, .lst ys => if xs.length + ys.length ≤ line then some (.lst (xs ++ ys)) else none
  | .mul, .tup xs, .int j => if xs ≠ [] ∧ 2 ≤ j ∧ j ≤ 1000 ∧ xs.length ≤ 1000 then some (.tup (List.replicate j.toNat xs).flatten) else none
  | .mul, .lst xs, .int j => if -(2 ^ 62) ≤ j ∧ j < 2 ^ 62 ∧ xs.length * j.toNat ≤ line then some (.lst (List.replicate j.toNat xs).flatten) else none
  | _, _, _ => none
def keyOf : D → Option Key
  | .int i => some (.inl i)
  | .str s => some (.inr s)
  | _ => none
def keysOf : List D → Option (List Key)
  | [] => some []
  | d :: ds => match keyOf d, keysOf ds with
    | some k, some ks => some (k :: ks)
    | _, _ => none
def getK {κ : Type} [DecidableEq κ] (kvs : List (κ × D)) (k : κ) : Option D := (kvs.find? fun kv => decide (kv.1 = k)).map (·.2)
def setK {κ : Type} [DecidableEq κ] (kvs : List (κ × D)) (k : κ) (v : D) : List (κ × D) :=
  if (kvs.any fun kv => decide (kv.1 = k)) = true then kvs.map (fun kv => if kv.1 = k then (kv.1, v) else kv) else kvs ++ [(k, v)]
/-- x in xs -/
def inD (x : D) (ys : List D) : Option Bool :=
  match toPy x, toPys ys with
  | some d, some ds => if SeqAt.shaped d && SeqAt.shaped (.list ds) then some (ds.any fun z => PyData.eqv z d) else none
  | _, _ => none
def cmpD : CmpK → D → D → Option Bool
  | .eq, a, b => eqD a b
  | .ne, a, b => (eqD a b).map (!·)
  | .lt, .int i, .int j => some (decide (i < j))
  | .le, .int i, .int j => some (decide (i ≤ j))
  | .gt, .int i, .int j => some (decide (j < i))
  | .ge, .int i, .int j => some (decide (j ≤ i))
  | .isin, k, .dK kvs => (keyOf k).map fun k => (getK kvs k).isSome
  | .notin, k, .dK kvs => (keyOf k).map fun k => !(getK kvs k).isSome
  | .isin, .tup k, .dT kvs => (keysOf k).map fun k => (getK kvs k).isSome
  | .notin, .tup k, .dT kvs => (keysOf k).map fun k => !(getK kvs k).isSome
  | .isin, .str s, .str t => some (!(Builtin.Str.occurrences t s 0 t.length 1).isEmpty)
  | .notin, .str s, .str t => some (!(!(Builtin.Str.occurrences t s 0 t.length 1).isEmpty))
  | .isin, x, .lst ys => inD x ys
  | .isin, x, .tup ys => inD x ys
  | .notin, x, .lst ys => (inD x ys).map (!·)
  | .notin, x, .tup ys => (inD x ys).map (!·)
  | .is, .non, .non => some true
  | .is, .fn _, .non => none
  | .is, _, .non => some false
  | .isnot, .non, .non => some false
  | .isnot, .fn _, .non => none
  | .isnot, _, .non => some true
  | _, _, _ => none
def idxD : D → D → Option D
  | .tup xs, .int i => atI xs i
  | .lst xs, .int i => atI xs i
  | .str s, .int i => if s.length ≤ line then (atI s.cps.toList i).map fun c => .str ⟨#[c]⟩ else none
  | .dK kvs, k => (keyOf k).bind fun k => getK kvs k
  | .dT kvs, .tup k => (keysOf k).bind fun k => getK kvs k
  | _, _ => none
/-- a slice's end: left out, or an int -/
def endOf : D → Option (Option Int)
  | .non => some none
  | .int i => some (some i)
  | _ => none
def cutD (xs : List D) (lo hi : Option Int) : List D := (xs.drop (HT.sIx xs.length 0 lo)).take (HT.sIx xs.length xs.length hi - HT.sIx xs.length 0 lo)
def sliK (a : D) (l h : Option Int) : Option D :=
  match a with
  | .tup xs => some (.tup (cutD xs l h))
  | .lst xs => some (.lst (cutD xs l h))
  | .str s => if s.length ≤ line then some (.str (cutS s l h)) else none
  | _ => none
def sliD (a lo hi : D) : Option D :=
  match endOf lo, endOf hi with
  | some l, some h => sliK a l h
  | _, _ => none
def fldD (cls : List (Str × Bool)) (fl : List (Str × Str)) : D → Str → Option D
  | .ins C fs, f => if (cls.contains (C, false) && fl.contains (C, f)) = true then fs.lookup f else none
  | .exc C fs, f => if (cls.contains (C, true) && fl.contains (C, f)) = true then fs.lookup f else none
  | _, _ => none
def knownD (cls : List (Str × Bool)) : D → Bool
  | .ins C _ => cls.contains (C, false)
  | .exc C _ => cls.contains (C, true)
  | .fn _ => false
  | .loc _ => false
  | .frz _ => false
  | _ => true
def isiT (sub : Str → Str → Bool) : Ty → D → Bool
  | .int, .int _ => true
  | .int, .bl _ => true
  | .bool, .bl _ => true
  | .str, .str _ => true
  | .tuple, .tup _ => true
  | .list, .lst _ => true
  | .dict, .dK _ => true
  | .dict, .dT _ => true
  | .cls C, .ins C' _ => sub C' C
  | .cls C, .exc C' _ => sub C' C
  | _, _ => false
def tyOk (cls : List (Str × Bool)) : Ty → Bool
  | .cls C => cls.any fun p => decide (p.1 = C)
  | _ => true
def isiD (cls : List (Str × Bool)) (sub : Str → Str → Bool) (T : Ty) (d : D) : Option Bool := if (knownD cls d && tyOk cls T) = true then some (isiT sub T d) else none
def allInts : List D → Option (List Int)
  | [] => some []
  | .int i :: ds => (allInts ds).map (i :: ·)
  | _ :: _ => none
def allBools : List D → Option (List Bool)
  | [] => some []
  | .bl i :: ds => (allBools ds).map (i :: ·)
  | _ :: _ => none
def allStrs : List D → Option (List Str)
  | [] => some []
  | .str i :: ds => (allStrs ds).map (i :: ·)
  | _ :: _ => none
def seqOf : D → Option (List D)
  | .str s => if s.length ≤ line then some (s.cps.toList.map fun c => .str ⟨#[c]⟩) else none
  | .frz xs => some xs
  | .lst xs => some xs
  | .tup xs => some xs
  | _ => none
def bltD : Blt → List D → Option D
  | .len, [.str s] => if s.length ≤ line then some (.int s.length) else none
  | .len, [.tup xs] => some (.int xs.length)
  | .len, [.lst xs] => some (.int xs.length)
  | .len, [.frz xs] => some (.int xs.length)
  | .tuple, [.tup xs] => some (.tup xs)
  | .tuple, [.lst xs] => some (.tup xs)
  | .list, [.tup xs] => some (.lst xs)
  | .list, [.lst xs] => some (.lst xs)
  | .abs, [.int i] => some (.int (if i < 0 then -i else i))
  | .int, [.int i] => some (.int i)
  | .int, [.bl b] => some (.int (if b then 1 else 0))
  | .max, [.int i, .int j] => some (.int (if j > i then j else i))
  | .min, [.int i, .int j] => some (.int (if j < i then j else i))
  | .all, [.lst xs] => (allBools xs).map fun bs => .bl (bs.all id)
  | .any, [.lst xs] => (allBools xs).map fun bs => .bl (bs.any id)
  | .repr, [a] => (toPy a).bind fun p => if p.showable && decide (p.depth < 64) && decide (p.shown.length ≤ line) then some (.str p.shown) else none
  | .str, [.int i] => if i.natAbs.log2 < 1920 then some (.str (toString i)) else none
  | _, _ => none
def smD : Sm → Str → List D → Option D
  | .split, a, [.str b] => if (b.length == 0) = false ∧ a.length + 2 ≤ line then some (.lst ((Txt.split a b).map .str)) else none
  | .join, a, [.lst xs] => (allStrs xs).bind fun ys => if (ys.map (·.length)).sum + ys.length * a.length ≤ 16777216 then some (.str (Txt.join a ys)) else none
  | .sindex, a, [.str b] => match Builtin.Str.occurrences a b 0 a.length 1 with
    | i :: _ => some (.int (i : Nat))
    | [] => none
  | _, _, _ => none

/-! ### the evaluator -/
structure FE where
  fn : Str → Option (Nat × (List D → M D))
  cls : List (Str × Bool)
  sub : Str → Str → Bool
  fl : List (Str × Str)
  base : Str

def rd (env : Env) (i : Nat) : M D :=
  match env[i]? with
  | some (.val d) => ret d
  | _ => stuck
/-- what a place that only looks may take -/
def deref (m : Mem) : D → Option D
  | .loc l => match m[l]? with
    | some (.lst xs) => some (.lst xs)
    | some (.dK kvs) => some (.dK kvs)
    | _ => none
  | d => some d
def weak (c : E) (env : Env) (r : M D) : M D :=
  match c with
  | .var i => match env[i]? with
    | some (.own d) => ret d
    | _ => r
  | _ => r
def d1 {α : Type} (x : D) (k : D → Option α) : M α := fun m =>
  match deref m x with
  | some x => lift (k x) m
  | none => .bad
def d2 {α : Type} (x y : D) (k : D → D → Option α) : M α := fun m =>
  match deref m x, deref m y with
  | some x, some y => lift (k x y) m
  | _, _ => .bad
def derefs (m : Mem) : List D → Option (List D)
  | [] => some []
  | d :: ds => match deref m d, derefs m ds with
    | some x, some xs => some (x :: xs)
    | _, _ => none
def dn {α : Type} (xs : List D) (k : List D → Option α) : M α := fun m =>
  match derefs m xs with
  | some xs => lift (k xs) m
  | none => .bad
mutual
def bindG : G → D → Env → Option Env
  | .name i, d, env => if i < env.length then some (env.set i (.val d)) else none
  | .tup gs, .tup ds, env => bindGs gs ds env
  | _, _, _ => none
def bindGs : List G → List D → Env → Option Env
  | [], [], env => some env
  | g :: gs, d :: ds, env => (bindG g d env).bind fun env => bindGs gs ds env
  | _, _, _ => none
end
mutual
def slots : G → List Nat
  | .name i => [i]
  | .tup gs => slotss gs
def slotss : List G → List Nat
  | [] => []
  | g :: gs => slots g ++ slotss gs
end
def wipeE (env : Env) : List Nat → Env
  | [] => env
  | i :: is => (wipeE env is).set i .no
def rangeD (lo : Int) (n : Nat) : List D := (List.range n).map fun (i : Nat) => D.int (lo + (i : Int))
def compLoop (b : D → Option Env) (c : Env → M Bool) (e : Env → M D) : List D → List D → M (List D)
  | [], acc => ret acc
  | d :: ds, acc => match b d with
    | none => stuck
    | some env => bnd (fun m => (c env m).calm) fun k =>
      if k = true then bnd (fun m => (e env m).calm) fun x => compLoop b c e ds (acc ++ [x])
      else compLoop b c e ds acc
def boolOf : D → Option Bool
  | .bl b => some b
  | _ => none
def asBool (x : M D) : M Bool := bnd x fun d => lift (boolOf d)
def zipD : List D → List D → List D
  | x :: xs, y :: ys => .tup [x, y] :: zipD xs ys
  | _, _ => []
def enumD (n : Nat) : List D → List D
  | [] => []
  | x :: xs => .tup [.int n, x] :: enumD (n + 1) xs
/-- the values in the parameters' order -/
def permL {α : Type} : List Nat → List α → Option (List α)
  | [], _ => some []
  | i :: is, xs => match xs[i]?, permL is xs with
    | some x, some ys => some (x :: ys)
    | _, _ => none
/-- x is a mutable list -/
def chkL {α : Type} (x : D) (k : M α) : M α := fun m => match x with
  | .loc l => match m[l]? with
    | some (.lst _) => k m
    | _ => .bad
  | _ => .bad
def popM (x y : D) : M D := fun m => match x, y with
  | .loc l, .int i => match m[l]? with
    | some (.lst xs) => match ixN xs.length i with
      | some k => match xs[k]? with
        | some d => if i.natAbs ≤ 1000000000 then .ok d (m.set l (.lst (xs.eraseIdx k))) else .bad
        | none => .bad
      | none => .bad
    | _ => .bad
  | _, _ => .bad
def appM (x y : D) : M D := fun m => match x with
  | .loc l => match m[l]? with
    | some (.lst xs) => if xs.length < line then .ok .non (m.set l (.lst (xs ++ [y]))) else .bad
    | _ => .bad
  | _ => .bad
def newL : D → M D
  | .lst xs => fun m => .ok (.loc m.length) (m ++ [.lst xs])
  | .dK xs => fun m => .ok (.loc m.length) (m ++ [.dK xs])
  | _ => stuck
/-- the error as a value -/
def caughtM (fe : FE) : Res D → Res D
  | .ok _ m => .ok .non m
  | .exc C fs m => if (fe.cls.contains (C, true) && fe.sub C fe.base) = true then .ok (.exc C fs) m else .bad
  | .bad => .bad
section
variable (fe : FE)
mutual
def ev : E → Env → M D
  | .var i, env => rd env i
  | .con d, _ => ret d
  | .bin o a b, env => bnd (weak a env (ev a env)) fun x => bnd (weak b env (ev b env)) fun y => d2 x y (binD o)
  | .neg a, env => bnd (ev a env) fun x => match x with | .int i => ret (.int (-i)) | _ => stuck
  | .not a, env => bnd (ev a env) fun x => match x with | .bl b => ret (.bl (!b)) | _ => stuck
  | .and a b, env => bnd (ev a env) fun x => match x with | .bl true => ev b env | .bl false => ret (.bl false) | _ => stuck
  | .or a b, env => bnd (ev a env) fun x => match x with | .bl false => ev b env | .bl true => ret (.bl true) | _ => stuck
  | .cmp o a b, env => bnd (weak a env (ev a env)) fun x => bnd (weak b env (ev b env)) fun y => d2 x y fun x y => (cmpD o x y).map .bl
  | .chain o o' a b c, env => bnd (weak a env (ev a env)) fun x => bnd (weak b env (ev b env)) fun y => bnd (d2 x y (cmpD o)) fun k =>
      if k = true then bnd (weak c env (ev c env)) fun z => d2 y z fun y z => (cmpD o' y z).map .bl else ret (.bl false)
  | .ife t a b, env => bnd (ev t env) fun x => match x with | .bl true => ev a env | .bl false => ev b env | _ => stuck
  | .tup es, env => bnd (evs es env) fun xs => guardM (decide (xs.length ≤ line)) (ret (.tup xs))
  | .lst es, env => bnd (evs es env) fun xs => guardM (decide (xs.length ≤ line)) (ret (.lst xs))
  | .idx a i, env => bnd (weak a env (ev a env)) fun x => bnd (ev i env) fun y => d1 x fun x => idxD x y
  | .sli a lo hi, env => bnd (weak a env (ev a env)) fun x => bnd (ev lo env) fun l => bnd (ev hi env) fun h => d1 x fun x => sliD x l h
  | .fld a f, env => bnd (ev a env) fun x => lift (fldD fe.cls fe.fl x f)
  | .call f es, env => bnd (evs es env) fun xs => match fe.fn f with | some (n, g) => if xs.length = n then g xs else stuck | none => stuck
  | .callK f perm es ks, env => bnd (evs es env) fun xs => bnd (evs ks env) fun ys => match fe.fn f with
    | some (n, g) => match permL perm (xs ++ ys) with | some zs => if xs.length = es.length ∧ ys.length = ks.length ∧ zs.length = n then g zs else stuck | none => stuck
    | none => stuck
  | .blt b es, env => bnd (evws es env) fun xs => dn xs (bltD b)
  | .isi a T, env => bnd (weak a env (ev a env)) fun x => d1 x fun x => (isiD fe.cls fe.sub T x).map .bl
  | .meth s a es, env => bnd (ev a env) fun x => match x with | .str z => bnd (evws es env) fun xs => dn xs (smD s z) | _ => stuck
  | .comp ow g it cs e, env => bnd (evIt true it env) fun ds => guardM ((slots g).all fun i => ow.contains i)
      (bnd (compLoop (fun d => bindG g d (wipeE env ow)) (fun env => evAll cs env) (fun env => ev e env) ds []) fun xs => ret (.lst xs))
  | .comp2 _ _ _ _ _ _ _ _ _, _ => stuck
  | .newL a, env => bnd (ev a env) newL
  | .dis ks es, env => bnd (evs es env) fun xs => guardM (decide (xs.length = ks.length ∧ ks.length ≤ 15 ∧ ks.Nodup)) (ret (.dK (ks.zip xs)))
  | .popL a i, env => bnd (ev a env) fun x => chkL x (bnd (ev i env) fun y => popM x y)
  | .popE a, env => bnd (ev a env) fun x => chkL x (popM x (.int (-1)))
  | .appL a e, env => bnd (ev a env) fun x => chkL x (bnd (ev e env) fun y => appM x y)
  | .caught e, env => fun m => caughtM fe (ev e env m)
def evs : List E → Env → M (List D)
  | [], _ => ret []
  | e :: es, env => bnd (ev e env) fun x => bnd (evs es env) fun xs => ret (x :: xs)
def evws : List E → Env → M (List D)
  | [], _ => ret []
  | e :: es, env => bnd (weak e env (ev e env)) fun x => bnd (evws es env) fun xs => ret (x :: xs)
def evAll : List E → Env → M Bool
  | [], _ => ret true
  | [e], env => asBool (ev e env)
  | _, _ => stuck
def evIt (w : Bool) : It → Env → M (List D)
  | .seq a, env => bnd (if w = true then weak a env (ev a env) else ev a env) fun x => lift (seqOf x)
  | .rng1 a, env => bnd (ev a env) fun x => match x with | .int j => guardM (decide (j ≤ line ∧ -(2 ^ 62) ≤ j)) (ret (rangeD 0 j.toNat)) | _ => stuck
  | .rng2 a b, env => bnd (ev a env) fun x => bnd (ev b env) fun y => match x, y with
      | .int i, .int j => guardM (decide (-(2 ^ 60) ≤ i ∧ i ≤ 2 ^ 60 ∧ -(2 ^ 60) ≤ j ∧ j ≤ 2 ^ 60 ∧ j - i ≤ line)) (ret (rangeD i (j - i).toNat))
      | _, _ => stuck
  | .zip a b, env => bnd (if w = true then weak a env (ev a env) else ev a env) fun x => bnd (if w = true then weak b env (ev b env) else ev b env) fun y => match seqOf x, seqOf y with
      | some xs, some ys => ret (zipD xs ys)
      | _, _ => stuck
  | .enum a, env => bnd (if w = true then weak a env (ev a env) else ev a env) fun x => match seqOf x with
      | some xs => ret (enumD 0 xs)
      | _ => stuck
end

inductive Out where
  | nx (env : Env) | ret (d : D) | bk (env : Env) | ct (env : Env)
def forLoop (b : D → Env → Option Env) (body : Env → M Out) : List D → Env → M Out
  | [], env => ret (.nx env)
  | d :: ds, env => match b d env with
    | none => stuck
    | some env => bnd (body env) fun o => match o with
      | .nx env => forLoop b body ds env
      | .ct env => forLoop b body ds env
      | .bk env => ret (.nx env)
      | .ret d => ret (.ret d)
def whileLoop (t : Env → M Bool) (body : Env → M Out) : Nat → Env → M Out
  | 0, _ => stuck
  | n + 1, env => bnd (t env) fun k => if k = true then bnd (body env) fun o => match o with
      | .nx env => whileLoop t body n env
      | .ct env => whileLoop t body n env
      | .bk env => ret (.nx env)
      | .ret d => ret (.ret d)
    else ret (.nx env)
def setS (env : Env) (i : Nat) (s : Sl) : M Out := if i < env.length then ret (.nx (env.set i s)) else stuck
def parS : List Nat → List D → Env → Option Env
  | [], [], env => some env
  | i :: is, d :: ds, env => if i < env.length then parS is ds (env.set i (.val d)) else none
  | _, _, _ => none
mutual
def exS : S → Env → M Out
  | .set i e, env => bnd (ev fe e env) fun x => setS env i (.val x)
  | .setOwn i e, env => bnd (ev fe e env) fun x => setS env i (.own x)
  | .asg g e, env => bnd (ev fe e env) fun x => match bindG g x env with | some env => ret (.nx env) | none => stuck
  | .par is es, env => bnd (evs fe es env) fun xs => match parS is xs env with | some env => ret (.nx env) | none => stuck
  | .setI a i e, env => bnd (ev fe e env) fun z => match a with
      | .var j => match env[j]? with
        | some (.own (.lst xs)) => bnd (ev fe i env) fun y => match y with
          | .int k => match ixN xs.length k with
            | some n => ret (.nx (env.set j (.own (.lst (xs.set n z)))))
            | none => stuck
          | _ => stuck
        | some (.val (.loc l)) => bnd (ev fe i env) fun y => fun m => match m[l]? with
          | some (.dK kvs) => match keyOf y with
            | some k => if kvs.length < line then .ok (.nx env) (m.set l (.dK (setK kvs k z))) else .bad
            | none => .bad
          | _ => .bad
        | _ => stuck
      | _ => stuck
  | .expr e, env => bnd (ev fe e env) fun _ => ret (.nx env)
  | .app i e, env => bnd (ev fe e env) fun z => match env[i]? with
      | some (.own (.lst xs)) => if xs.length < line then ret (.nx (env.set i (.own (.lst (xs ++ [z]))))) else stuck
      | _ => stuck
  | .freeze i, env => match env[i]? with
      | some (.own d) => ret (.nx (env.set i (.val d)))
      | _ => ret (.nx env)
  | .ret e, env => bnd (ev fe e env) fun x => ret (.ret x)
  | .retN, _ => ret (.ret .non)
  | .ife t a b, env => bnd (asBool (ev fe t env)) fun k => if k = true then exSs a env else exSs b env
  | .for g it b, env => bnd (evIt fe false it env) fun ds => forLoop (fun d env => bindG g d env) (fun env => exSs b env) ds env
  | .whil n t b, env => whileLoop (fun env => asBool (ev fe t env)) (fun env => exSs b env) n env
  | .raise C es, env => bnd (evs fe es env) fun xs => fun m => match xs with
      | [.str _] => .exc C [] m
      | _ => .bad
  | .cont, env => ret (.ct env)
  | .brk, env => ret (.bk env)
  | .pass, env => ret (.nx env)
def exSs : List S → Env → M Out
  | [], env => ret (.nx env)
  | s :: ss, env => bnd (exS s env) fun o => match o with
    | .nx env => exSs ss env
    | o => ret o
end
/-- a def: n names, the body; what it gives for its arguments -/
def runF (n : Nat) (body : List S) (args : List D) : M D :=
  bnd (exSs fe body (args.map Sl.val ++ List.replicate (n - args.length) Sl.no)) fun o => match o with
    | .nx _ => ret .non
    | .ret d => ret d
    | _ => stuck
end
end Ev
end
section
set_option Elab.async false
set_option linter.all false
set_option maxRecDepth 100000
/-! Ev: what data lie in the abstract heap, what a turn of the evaluator keeps. -/
namespace Ev
open PySem PySem.Spec PyProof.Rows L2

/-- where data lie: ρ the places of the mutable objects, ω those that some frame alone holds -/
structure RC where
  K : PySem.W.Frag
  mg : Str → Option Value
  T : List (Addr × Str)
  ρ : List Addr
  ω : List Addr
  P : Program
structure RC.ok (c : RC) (a : Addr) : Prop where
  r : a ∉ c.ρ
  w : a ∉ c.ω
/-- a list of the written part -/
def KL (K : PySem.W.Frag) (a : Addr) (xs : List V) : Prop := ∃ (o : Obj) (its : Array Value) (n : Nat), K.lookup a = some o ∧ o.cls = .type "list" ∧ o.dict = none ∧ o.data = .seq its n ∧ its.size ≤ sizeLine ∧ Vals xs its.toList
/-- an exception object of the class cls, its own dict d, at a -/
def ExV (cls : Value) (d : Option Addr) (a : Addr) : HO := .ext fun h => ∃ (oe : Obj) (vs : Array Value), h.get? a = some oe ∧ Zc cls d oe ∧ oe.data = .fields vs
mutual
def Dn (c : RC) (H : Hp) : D → V → Prop
  | .non, v => v = .non
  | .bl b, v => v = .bl b
  | .int i, v => v = .int i
  | .str s, v => v = .str s
  | .tup ds, v => ∃ a vs, v = .ref a ∧ c.ok a ∧ H a = some (.tup vs) ∧ DnL c H ds vs
  | .lst ds, v => ∃ a vs, v = .ref a ∧ c.ok a ∧ H a = some (.lst vs) ∧ DnL c H ds vs
  | .frz ds, v => ∃ a vs, v = .ref a ∧ ((c.ok a ∧ Rd H a (.lst vs)) ∨ KL c.K a vs) ∧ DnL c H ds vs
  | .dK kvs, v => ∃ a ws, v = .ref a ∧ c.ok a ∧ H a = some (.dK ws) ∧ DnK c H kvs ws
  | .dT kvs, v => ∃ a ws, v = .ref a ∧ c.ok a ∧ H a = some (.dT ws) ∧ DnT c H kvs ws
  | .ins C fs, v => ∃ a A dx ws, v = .ref a ∧ c.ok a ∧ c.mg C = some (.ref A) ∧ H a = some (.ins A dx ws) ∧ DnF c H fs ws
  | .exc C fs, v => ∃ a A d, v = .ref a ∧ c.ok a ∧ c.mg C = some (.ref A) ∧ H a = some (ExV (.ref A) d a) ∧ ((fs = [] ∧ d = none) ∨ ∃ dd ws, d = some dd ∧ c.ok dd ∧ H dd = some (.xd ws) ∧ DnF c H fs ws)
  | .fn x, v => ∃ u, c.mg x = some u ∧ RelV v u
  | .loc l, v => ∃ a, c.ρ[l]? = some a ∧ v = .ref a
def DnL (c : RC) (H : Hp) : List D → List V → Prop
  | [], [] => True
  | d :: ds, v :: vs => Dn c H d v ∧ DnL c H ds vs
  | _, _ => False
def DnK (c : RC) (H : Hp) : List (Key × D) → List (Key × V) → Prop
  | [], [] => True
  | (k, d) :: ds, (k', v) :: vs => k = k' ∧ Dn c H d v ∧ DnK c H ds vs
  | _, _ => False
def DnT (c : RC) (H : Hp) : List (List Key × D) → List (List Key × V) → Prop
  | [], [] => True
  | (k, d) :: ds, (k', v) :: vs => k = k' ∧ Dn c H d v ∧ DnT c H ds vs
  | _, _ => False
def DnF (c : RC) (H : Hp) : List (Str × D) → List (Str × V) → Prop
  | [], [] => True
  | (k, d) :: ds, (k', v) :: vs => k = k' ∧ Dn c H d v ∧ DnF c H ds vs
  | _, _ => False
end

theorem fr_no {H : Hp} {a : Addr} {o : HO} {p : Prop} (n : Fr0 H a) (e : H a = some o) (t : ∀ ps, o ≠ .tbl ps) : p := by
  obtain ⟨ps, z⟩ := n o e
  exact absurd z (t ps)
theorem fr_of {H : Hp} {a : Addr} (h : ∀ o, H a = some o → (∀ ps, o ≠ .tbl ps) → False) : Fr0 H a := fun o e => Classical.byContradiction fun z => h o e fun ps q => z ⟨ps, q⟩
/-- what an expression keeps: all but the mutable objects -/
structure Xt (c : RC) (H : Hp) (ρ' : List Addr) (H' : Hp) : Prop where
  pre : ∃ t, ρ' = c.ρ ++ t
  new : ∀ a ∈ ρ', a ∈ c.ρ ∨ Fr0 H a
  keep : ∀ a o, H a = some o → a ∉ c.ρ → (∀ ps, o ≠ .tbl ps) → H' a = some o
  there : ∀ a o, H a = some o → (∀ ps, o ≠ .tbl ps) → ∃ o', H' a = some o' ∧ ∀ ps, o' ≠ .tbl ps
/-- .. what all keep: what is held alone may change too -/
structure Xw (c : RC) (H : Hp) (ρ' : List Addr) (H' : Hp) : Prop where
  pre : ∃ t, ρ' = c.ρ ++ t
  new : ∀ a ∈ ρ', a ∈ c.ρ ∨ Fr0 H a
  keep : ∀ a o, H a = some o → c.ok a → (∀ ps, o ≠ .tbl ps) → H' a = some o
theorem Xt.xw {c : RC} {H H' : Hp} {ρ' : List Addr} (x : Xt c H ρ' H') : Xw c H ρ' H' := ⟨x.pre, x.new, fun a o e k t => x.keep a o e k.r t⟩
abbrev RC.r (c : RC) (ρ' : List Addr) : RC := { c with ρ := ρ' }
abbrev RC.w (c : RC) (ω' : List Addr) : RC := { c with ω := ω' }
theorem Xt.refl (c : RC) (H : Hp) : Xt c H c.ρ H := ⟨⟨[], by simp⟩, fun a h => .inl h, fun _ _ h _ _ => h, fun _ o h t => ⟨o, h, t⟩⟩
theorem Xt.trans {c : RC} {H H1 H2 : Hp} {ρ1 ρ2 : List Addr} (x : Xt c H ρ1 H1) (y : Xt (c.r ρ1) H1 ρ2 H2) : Xt c H ρ2 H2 := by
  obtain ⟨t, e⟩ := x.pre
  obtain ⟨t', e'⟩ := y.pre
  refine ⟨⟨t ++ t', by rw [e']; show ρ1 ++ t' = _; rw [e, List.append_assoc]⟩, fun a h => ?_, fun a o h n nt => ?_, fun a o h nt => ?_⟩
  · rcases y.new a h with z | z
    · exact x.new a z
    · by_cases ha : a ∈ c.ρ
      · exact .inl ha
      · exact .inr (fr_of fun o q nt => fr_no z (x.keep a o q ha nt) nt)
  · refine y.keep a o (x.keep a o h n nt) (fun z => ?_) nt
    rcases x.new a z with z | z
    · exact n z
    · exact fr_no z h nt
  · obtain ⟨o', h', nt'⟩ := x.there a o h nt
    exact y.there a o' h' nt'
theorem Xt.ok {c : RC} {H H' : Hp} {ρ' : List Addr} (x : Xt c H ρ' H') {a : Addr} {o : HO} (h : c.ok a) (e : H a = some o) (t : ∀ ps, o ≠ .tbl ps) : (c.r ρ').ok a :=
  ⟨fun z => (x.new a z).elim h.r (fun q => fr_no q e t), h.w⟩
theorem Xt.rd {c : RC} {H H' : Hp} {ρ' : List Addr} (x : Xt c H ρ' H') {a : Addr} {o : HO} (h : a ∉ c.ρ) (e : Rd H a o) (n : ∀ ps, o ≠ .tbl ps) : Rd H' a o := by
  rcases e with e | ⟨ob, e⟩
  · exact .inl (x.keep a o e h n)
  · exact .inr ⟨ob, x.keep a _ e h fun ps z => nomatch z⟩
theorem Rd.there {H : Hp} {a : Addr} {o : HO} (e : Rd H a o) (t : ∀ ps, o ≠ .tbl ps) : ∃ u, H a = some u ∧ ∀ ps, u ≠ .tbl ps := by
  rcases e with e | ⟨ob, e⟩
  · exact ⟨_, e, t⟩
  · exact ⟨_, e, fun ps z => nomatch z⟩
theorem Xw.ok {c : RC} {H H' : Hp} {ρ' : List Addr} (x : Xw c H ρ' H') {a : Addr} {o : HO} (h : c.ok a) (e : H a = some o) (t : ∀ ps, o ≠ .tbl ps) : (c.r ρ').ok a :=
  ⟨fun z => (x.new a z).elim h.r (fun q => fr_no q e t), h.w⟩
theorem Xw.rd {c : RC} {H H' : Hp} {ρ' : List Addr} (x : Xw c H ρ' H') {a : Addr} {o : HO} (h : c.ok a) (e : Rd H a o) (n : ∀ ps, o ≠ .tbl ps) : Rd H' a o := by
  rcases e with e | ⟨ob, e⟩
  · exact .inl (x.keep a o e h n)
  · exact .inr ⟨ob, x.keep a _ e h fun ps z => nomatch z⟩
mutual
theorem Dn.monoW {c : RC} {H H' : Hp} {ρ' : List Addr} (x : Xw c H ρ' H') : ∀ (d : D) (v : V), Dn c H d v → Dn (c.r ρ') H' d v
  | .non, _, h => h
  | .bl _, _, h => h
  | .int _, _, h => h
  | .str _, _, h => h
  | .tup ds, _, ⟨a, vs, e, k, r, l⟩ => ⟨a, vs, e, x.ok k r (fun ps z => nomatch z), x.keep _ _ r k (fun ps z => nomatch z), DnL.monoW x ds vs l⟩
  | .lst ds, _, ⟨a, vs, e, k, r, l⟩ => ⟨a, vs, e, x.ok k r (fun ps z => nomatch z), x.keep _ _ r k (fun ps z => nomatch z), DnL.monoW x ds vs l⟩
  | .frz ds, _, ⟨a, vs, e, k, l⟩ => by
    refine ⟨a, vs, e, ?_, DnL.monoW x ds vs l⟩
    rcases k with ⟨k, r⟩ | k
    · obtain ⟨o, ho, to⟩ := Rd.there r (fun ps z => nomatch z)
      exact .inl ⟨x.ok k ho to, x.rd k r (fun ps z => nomatch z)⟩
    · exact .inr k
  | .dK kvs, _, ⟨a, ws, e, k, r, l⟩ => ⟨a, ws, e, x.ok k r (fun ps z => nomatch z), x.keep _ _ r k (fun ps z => nomatch z), DnK.monoW x kvs ws l⟩
  | .dT kvs, _, ⟨a, ws, e, k, r, l⟩ => ⟨a, ws, e, x.ok k r (fun ps z => nomatch z), x.keep _ _ r k (fun ps z => nomatch z), DnT.monoW x kvs ws l⟩
  | .ins C fs, _, ⟨a, A, dx, ws, e, k, g, r, l⟩ => ⟨a, A, dx, ws, e, x.ok k r (fun ps z => nomatch z), g, x.keep _ _ r k (fun ps z => nomatch z), DnF.monoW x fs ws l⟩
  | .exc C fs, _, ⟨a, A, d, e, k, g, r, l⟩ => by
    refine ⟨a, A, d, e, x.ok k r (fun ps z => nomatch z), g, x.keep _ _ r k (fun ps z => nomatch z), ?_⟩
    rcases l with l | ⟨dd, ws, e2, k2, r2, l⟩
    · exact .inl l
    · exact .inr ⟨dd, ws, e2, x.ok k2 r2 (fun ps z => nomatch z), x.keep _ _ r2 k2 (fun ps z => nomatch z), DnF.monoW x fs ws l⟩
  | .fn _, _, h => h
  | .loc l, _, ⟨a, e, h⟩ => by
    obtain ⟨t, et⟩ := x.pre
    refine ⟨a, ?_, h⟩
    show ρ'[l]? = some a
    rw [et, List.getElem?_append_left (List.getElem?_eq_some_iff.mp e).1]
    exact e
theorem DnL.monoW {c : RC} {H H' : Hp} {ρ' : List Addr} (x : Xw c H ρ' H') : ∀ (ds : List D) (vs : List V), DnL c H ds vs → DnL (c.r ρ') H' ds vs
  | [], [], _ => True.intro
  | d :: ds, v :: vs, ⟨h, t⟩ => ⟨Dn.monoW x d v h, DnL.monoW x ds vs t⟩
  | [], _ :: _, h => h
  | _ :: _, [], h => h
theorem DnK.monoW {c : RC} {H H' : Hp} {ρ' : List Addr} (x : Xw c H ρ' H') : ∀ (ds : List (Key × D)) (vs : List (Key × V)), DnK c H ds vs → DnK (c.r ρ') H' ds vs
  | [], [], _ => True.intro
  | (_, d) :: ds, (_, v) :: vs, ⟨e, h, t⟩ => ⟨e, Dn.monoW x d v h, DnK.monoW x ds vs t⟩
  | [], _ :: _, h => h
  | _ :: _, [], h => h
theorem DnT.monoW {c : RC} {H H' : Hp} {ρ' : List Addr} (x : Xw c H ρ' H') : ∀ (ds : List (List Key × D)) (vs : List (List Key × V)), DnT c H ds vs → DnT (c.r ρ') H' ds vs
  | [], [], _ => True.intro
  | (_, d) :: ds, (_, v) :: vs, ⟨e, h, t⟩ => ⟨e, Dn.monoW x d v h, DnT.monoW x ds vs t⟩
  | [], _ :: _, h => h
  | _ :: _, [], h => h
theorem DnF.monoW {c : RC} {H H' : Hp} {ρ' : List Addr} (x : Xw c H ρ' H') : ∀ (ds : List (Str × D)) (vs : List (Str × V)), DnF c H ds vs → DnF (c.r ρ') H' ds vs
  | [], [], _ => True.intro
  | (_, d) :: ds, (_, v) :: vs, ⟨e, h, t⟩ => ⟨e, Dn.monoW x d v h, DnF.monoW x ds vs t⟩
  | [], _ :: _, h => h
  | _ :: _, [], h => h
end
theorem Dn.mono {c : RC} {H H' : Hp} {ρ' : List Addr} (x : Xt c H ρ' H') (d : D) (v : V) (h : Dn c H d v) : Dn (c.r ρ') H' d v := Dn.monoW x.xw d v h
theorem DnL.mono {c : RC} {H H' : Hp} {ρ' : List Addr} (x : Xt c H ρ' H') (d : List D) (v : List V) (h : DnL c H d v) : DnL (c.r ρ') H' d v := DnL.monoW x.xw d v h
theorem DnK.mono {c : RC} {H H' : Hp} {ρ' : List Addr} (x : Xt c H ρ' H') (d : List (Key × D)) (v : List (Key × V)) (h : DnK c H d v) : DnK (c.r ρ') H' d v := DnK.monoW x.xw d v h
theorem DnT.mono {c : RC} {H H' : Hp} {ρ' : List Addr} (x : Xt c H ρ' H') (d : List (List Key × D)) (v : List (List Key × V)) (h : DnT c H d v) : DnT (c.r ρ') H' d v := DnT.monoW x.xw d v h
theorem DnF.mono {c : RC} {H H' : Hp} {ρ' : List Addr} (x : Xt c H ρ' H') (d : List (Str × D)) (v : List (Str × V)) (h : DnF c H d v) : DnF (c.r ρ') H' d v := DnF.monoW x.xw d v h
/-! fewer places are held alone -/
mutual
theorem Dn.less {c : RC} {H : Hp} {ω' : List Addr} (hs : ∀ a ∈ ω', a ∈ c.ω) : ∀ (d : D) (v : V), Dn c H d v → Dn (c.w ω') H d v
  | .non, _, h => h
  | .bl _, _, h => h
  | .int _, _, h => h
  | .str _, _, h => h
  | .tup ds, _, ⟨a, vs, e, k, r, l⟩ => ⟨a, vs, e, ⟨k.r, fun z => k.w (hs a z)⟩, r, DnL.less hs ds vs l⟩
  | .lst ds, _, ⟨a, vs, e, k, r, l⟩ => ⟨a, vs, e, ⟨k.r, fun z => k.w (hs a z)⟩, r, DnL.less hs ds vs l⟩
  | .frz ds, _, ⟨a, vs, e, k, l⟩ => ⟨a, vs, e, k.imp (fun k => ⟨⟨k.1.r, fun z => k.1.w (hs a z)⟩, k.2⟩) id, DnL.less hs ds vs l⟩
  | .dK kvs, _, ⟨a, ws, e, k, r, l⟩ => ⟨a, ws, e, ⟨k.r, fun z => k.w (hs a z)⟩, r, DnK.less hs kvs ws l⟩
  | .dT kvs, _, ⟨a, ws, e, k, r, l⟩ => ⟨a, ws, e, ⟨k.r, fun z => k.w (hs a z)⟩, r, DnT.less hs kvs ws l⟩
  | .ins C fs, _, ⟨a, A, dx, ws, e, k, g, r, l⟩ => ⟨a, A, dx, ws, e, ⟨k.r, fun z => k.w (hs a z)⟩, g, r, DnF.less hs fs ws l⟩
  | .exc C fs, _, ⟨a, A, d, e, k, g, r, l⟩ => by
    refine ⟨a, A, d, e, ⟨k.r, fun z => k.w (hs a z)⟩, g, r, ?_⟩
    rcases l with l | ⟨dd, ws, e2, k2, r2, l⟩
    · exact .inl l
    · exact .inr ⟨dd, ws, e2, ⟨k2.r, fun z => k2.w (hs dd z)⟩, r2, DnF.less hs fs ws l⟩
  | .fn _, _, h => h
  | .loc l, _, h => h
theorem DnL.less {c : RC} {H : Hp} {ω' : List Addr} (hs : ∀ a ∈ ω', a ∈ c.ω) : ∀ (ds : List D) (vs : List V), DnL c H ds vs → DnL (c.w ω') H ds vs
  | [], [], _ => True.intro
  | d :: ds, v :: vs, ⟨h, t⟩ => ⟨Dn.less hs d v h, DnL.less hs ds vs t⟩
  | [], _ :: _, h => h
  | _ :: _, [], h => h
theorem DnK.less {c : RC} {H : Hp} {ω' : List Addr} (hs : ∀ a ∈ ω', a ∈ c.ω) : ∀ (ds : List (Key × D)) (vs : List (Key × V)), DnK c H ds vs → DnK (c.w ω') H ds vs
  | [], [], _ => True.intro
  | (_, d) :: ds, (_, v) :: vs, ⟨e, h, t⟩ => ⟨e, Dn.less hs d v h, DnK.less hs ds vs t⟩
  | [], _ :: _, h => h
  | _ :: _, [], h => h
theorem DnT.less {c : RC} {H : Hp} {ω' : List Addr} (hs : ∀ a ∈ ω', a ∈ c.ω) : ∀ (ds : List (List Key × D)) (vs : List (List Key × V)), DnT c H ds vs → DnT (c.w ω') H ds vs
  | [], [], _ => True.intro
  | (_, d) :: ds, (_, v) :: vs, ⟨e, h, t⟩ => ⟨e, Dn.less hs d v h, DnT.less hs ds vs t⟩
  | [], _ :: _, h => h
  | _ :: _, [], h => h
theorem DnF.less {c : RC} {H : Hp} {ω' : List Addr} (hs : ∀ a ∈ ω', a ∈ c.ω) : ∀ (ds : List (Str × D)) (vs : List (Str × V)), DnF c H ds vs → DnF (c.w ω') H ds vs
  | [], [], _ => True.intro
  | (_, d) :: ds, (_, v) :: vs, ⟨e, h, t⟩ => ⟨e, Dn.less hs d v h, DnF.less hs ds vs t⟩
  | [], _ :: _, h => h
  | _ :: _, [], h => h
end
/-! a place that nothing of ours speaks of is held alone from now on -/
theorem RC.ok.more {c : RC} {H : Hp} {p a : Addr} {o : HO} (n : Fr0 H p) (e : H a = some o) (k : c.ok a) (t : ∀ ps, o ≠ .tbl ps) : (c.w (p :: c.ω)).ok a :=
  ⟨k.r, fun z => (List.mem_cons.mp z).elim (fun q => by subst q; exact fr_no n e t) k.w⟩
mutual
theorem Dn.more {c : RC} {H : Hp} {p : Addr} (n : Fr0 H p) : ∀ (d : D) (v : V), Dn c H d v → Dn (c.w (p :: c.ω)) H d v
  | .non, _, h => h
  | .bl _, _, h => h
  | .int _, _, h => h
  | .str _, _, h => h
  | .tup ds, _, ⟨a, vs, e, k, r, l⟩ => ⟨a, vs, e, k.more n r (fun ps z => nomatch z), r, DnL.more n ds vs l⟩
  | .lst ds, _, ⟨a, vs, e, k, r, l⟩ => ⟨a, vs, e, k.more n r (fun ps z => nomatch z), r, DnL.more n ds vs l⟩
  | .frz ds, _, ⟨a, vs, e, k, l⟩ => ⟨a, vs, e, k.imp (fun k => let ⟨_, ho, to⟩ := Rd.there (o := .lst vs) k.2 (fun ps z => nomatch z); ⟨k.1.more n ho to, k.2⟩) id, DnL.more n ds vs l⟩
  | .dK kvs, _, ⟨a, ws, e, k, r, l⟩ => ⟨a, ws, e, k.more n r (fun ps z => nomatch z), r, DnK.more n kvs ws l⟩
  | .dT kvs, _, ⟨a, ws, e, k, r, l⟩ => ⟨a, ws, e, k.more n r (fun ps z => nomatch z), r, DnT.more n kvs ws l⟩
  | .ins C fs, _, ⟨a, A, dx, ws, e, k, g, r, l⟩ => ⟨a, A, dx, ws, e, k.more n r (fun ps z => nomatch z), g, r, DnF.more n fs ws l⟩
  | .exc C fs, _, ⟨a, A, d, e, k, g, r, l⟩ => by
    refine ⟨a, A, d, e, k.more n r (fun ps z => nomatch z), g, r, ?_⟩
    rcases l with l | ⟨dd, ws, e2, k2, r2, l⟩
    · exact .inl l
    · exact .inr ⟨dd, ws, e2, k2.more n r2 (fun ps z => nomatch z), r2, DnF.more n fs ws l⟩
  | .fn _, _, h => h
  | .loc l, _, h => h
theorem DnL.more {c : RC} {H : Hp} {p : Addr} (n : Fr0 H p) : ∀ (ds : List D) (vs : List V), DnL c H ds vs → DnL (c.w (p :: c.ω)) H ds vs
  | [], [], _ => True.intro
  | d :: ds, v :: vs, ⟨h, t⟩ => ⟨Dn.more n d v h, DnL.more n ds vs t⟩
  | [], _ :: _, h => h
  | _ :: _, [], h => h
theorem DnK.more {c : RC} {H : Hp} {p : Addr} (n : Fr0 H p) : ∀ (ds : List (Key × D)) (vs : List (Key × V)), DnK c H ds vs → DnK (c.w (p :: c.ω)) H ds vs
  | [], [], _ => True.intro
  | (_, d) :: ds, (_, v) :: vs, ⟨e, h, t⟩ => ⟨e, Dn.more n d v h, DnK.more n ds vs t⟩
  | [], _ :: _, h => h
  | _ :: _, [], h => h
theorem DnT.more {c : RC} {H : Hp} {p : Addr} (n : Fr0 H p) : ∀ (ds : List (List Key × D)) (vs : List (List Key × V)), DnT c H ds vs → DnT (c.w (p :: c.ω)) H ds vs
  | [], [], _ => True.intro
  | (_, d) :: ds, (_, v) :: vs, ⟨e, h, t⟩ => ⟨e, Dn.more n d v h, DnT.more n ds vs t⟩
  | [], _ :: _, h => h
  | _ :: _, [], h => h
theorem DnF.more {c : RC} {H : Hp} {p : Addr} (n : Fr0 H p) : ∀ (ds : List (Str × D)) (vs : List (Str × V)), DnF c H ds vs → DnF (c.w (p :: c.ω)) H ds vs
  | [], [], _ => True.intro
  | (_, d) :: ds, (_, v) :: vs, ⟨e, h, t⟩ => ⟨e, Dn.more n d v h, DnF.more n ds vs t⟩
  | [], _ :: _, h => h
  | _ :: _, [], h => h
end
theorem DnL.length {c : RC} {H : Hp} : ∀ {ds : List D} {vs : List V}, DnL c H ds vs → ds.length = vs.length
  | [], [], _ => rfl
  | _ :: ds, _ :: vs, ⟨_, t⟩ => congrArg (· + 1) (DnL.length t)
theorem DnL.get {c : RC} {H : Hp} : ∀ {ds : List D} {vs : List V} {i : Nat} {d : D}, DnL c H ds vs → ds[i]? = some d → ∃ v, vs[i]? = some v ∧ Dn c H d v
  | [], [], _, _, _, e => by simp at e
  | x :: ds, y :: vs, 0, d, ⟨h, _⟩, e => by
    have e' : x = d := by simpa using e
    subst e'
    exact ⟨y, rfl, h⟩
  | x :: ds, y :: vs, i + 1, d, ⟨_, t⟩, e => DnL.get (i := i) t (by simpa using e)
theorem DnL.append {c : RC} {H : Hp} : ∀ {ds es : List D} {vs ws : List V}, DnL c H ds vs → DnL c H es ws → DnL c H (ds ++ es) (vs ++ ws)
  | [], _, [], _, _, t => t
  | _ :: _, _, _ :: _, _, ⟨h, t⟩, u => ⟨h, DnL.append t u⟩
theorem DnL.take {c : RC} {H : Hp} : ∀ {ds : List D} {vs : List V} (n : Nat), DnL c H ds vs → DnL c H (ds.take n) (vs.take n)
  | _, _, 0, _ => by simp [DnL]
  | [], [], _ + 1, _ => by simp [DnL]
  | _ :: _, _ :: _, n + 1, ⟨h, t⟩ => ⟨h, DnL.take n t⟩
theorem DnL.drop {c : RC} {H : Hp} : ∀ {ds : List D} {vs : List V} (n : Nat), DnL c H ds vs → DnL c H (ds.drop n) (vs.drop n)
  | _, _, 0, h => by simpa using h
  | [], [], _ + 1, _ => by simp [DnL]
  | _ :: _, _ :: _, n + 1, ⟨_, t⟩ => DnL.drop n t
theorem DnL.set {c : RC} {H : Hp} {d : D} {v : V} (h : Dn c H d v) : ∀ {ds : List D} {vs : List V} (n : Nat), DnL c H ds vs → DnL c H (ds.set n d) (vs.set n v)
  | [], [], _, _ => by simp [DnL]
  | _ :: _, _ :: _, 0, ⟨_, t⟩ => ⟨h, t⟩
  | _ :: _, _ :: _, n + 1, ⟨g, t⟩ => ⟨g, DnL.set h n t⟩
theorem DnL.erase {c : RC} {H : Hp} : ∀ {ds : List D} {vs : List V} (n : Nat), DnL c H ds vs → DnL c H (ds.eraseIdx n) (vs.eraseIdx n)
  | [], [], _, _ => by simp [DnL]
  | _ :: _, _ :: _, 0, ⟨_, t⟩ => t
  | _ :: _, _ :: _, n + 1, ⟨g, t⟩ => ⟨g, DnL.erase n t⟩
theorem DnL.one {c : RC} {H : Hp} {d : D} {v : V} (h : Dn c H d v) : DnL c H [d] [v] := ⟨h, True.intro⟩

/-- a mutable object at its place -/
def MoR (c : RC) (H : Hp) (a : Addr) : MO → Prop
  | .lst ds => ∃ vs, H a = some (.lst vs) ∧ DnL c H ds vs
  | .dK kvs => ∃ ws, H a = some (.dK ws) ∧ DnK c H kvs ws
  | .ins C fs => ∃ A dx ws, c.mg C = some (.ref A) ∧ H a = some (.ins A dx ws) ∧ DnF c H fs ws
structure MemR (c : RC) (H : Hp) (m : Mem) : Prop where
  len : c.ρ.length = m.length
  at_ : ∀ (i : Nat) (a : Addr) (o : MO), c.ρ[i]? = some a → m[i]? = some o → MoR c H a o
  nd : c.ρ.Nodup
  own : ∀ a ∈ c.ω, ∃ o, H a = some o ∧ ∀ ps, o ≠ .tbl ps
  dj : ∀ a ∈ c.ω, a ∉ c.ρ
  tabs : LamX.Tabs c.T H
theorem MoR.there {c : RC} {H : Hp} {a : Addr} {o : MO} (h : MoR c H a o) : ∃ u, H a = some u ∧ ∀ ps, u ≠ .tbl ps := by
  cases o with
  | lst ds => obtain ⟨vs, e, _⟩ := h; exact ⟨_, e, fun ps z => nomatch z⟩
  | dK ds => obtain ⟨vs, e, _⟩ := h; exact ⟨_, e, fun ps z => nomatch z⟩
  | ins C fs => obtain ⟨_, _, _, _, e, _⟩ := h; exact ⟨_, e, fun ps z => nomatch z⟩
theorem MemR.there {c : RC} {H : Hp} {m : Mem} (h : MemR c H m) {a : Addr} (ha : a ∈ c.ρ) : ∃ u, H a = some u ∧ ∀ ps, u ≠ .tbl ps := by
  obtain ⟨i, e⟩ := List.mem_iff_getElem?.mp ha
  have hi := (List.getElem?_eq_some_iff.mp e).1
  obtain ⟨o, hm⟩ : ∃ o, m[i]? = some o := ⟨_, List.getElem?_eq_getElem (h.len ▸ hi)⟩
  exact (h.at_ i a _ e hm).there

/-- what a place that only looks may be handed -/
def DnW (c : RC) (H : Hp) : D → V → Prop
  | .lst ds, v => ∃ a vs, v = .ref a ∧ a ∉ c.ρ ∧ H a = some (.lst vs) ∧ DnL c H ds vs
  | .dK kvs, v => ∃ a ws, v = .ref a ∧ a ∉ c.ρ ∧ H a = some (.dK ws) ∧ DnK c H kvs ws
  | .dT kvs, v => ∃ a ws, v = .ref a ∧ a ∉ c.ρ ∧ H a = some (.dT ws) ∧ DnT c H kvs ws
  | d, v => Dn c H d v
theorem Dn.weak {c : RC} {H : Hp} {d : D} {v : V} (h : Dn c H d v) : DnW c H d v := by
  cases d with
  | lst ds => obtain ⟨a, vs, e, k, r, l⟩ := h; exact ⟨a, vs, e, k.r, r, l⟩
  | dK ds => obtain ⟨a, vs, e, k, r, l⟩ := h; exact ⟨a, vs, e, k.r, r, l⟩
  | dT ds => obtain ⟨a, vs, e, k, r, l⟩ := h; exact ⟨a, vs, e, k.r, r, l⟩
  | _ => exact h
theorem Xt.nr {c : RC} {H H' : Hp} {ρ' : List Addr} (x : Xt c H ρ' H') {a : Addr} {o : HO} (n : a ∉ c.ρ) (e : H a = some o) (t : ∀ ps, o ≠ .tbl ps) : a ∉ ρ' := fun z =>
  (x.new a z).elim n (fun q => fr_no q e t)
theorem DnW.mono {c : RC} {H H' : Hp} {ρ' : List Addr} (x : Xt c H ρ' H') {d : D} {v : V} (h : DnW c H d v) : DnW (c.r ρ') H' d v := by
  cases d with
  | lst ds =>
    obtain ⟨a, vs, e, k, r, l⟩ := h
    exact ⟨a, vs, e, x.nr k r (fun ps z => nomatch z), x.keep _ _ r k (fun ps z => nomatch z), DnL.mono x ds vs l⟩
  | dK ds => obtain ⟨a, vs, e, k, r, l⟩ := h; exact ⟨a, vs, e, x.nr k r (fun ps z => nomatch z), x.keep _ _ r k (fun ps z => nomatch z), DnK.mono x ds vs l⟩
  | dT ds => obtain ⟨a, vs, e, k, r, l⟩ := h; exact ⟨a, vs, e, x.nr k r (fun ps z => nomatch z), x.keep _ _ r k (fun ps z => nomatch z), DnT.mono x ds vs l⟩
  | _ => exact Dn.mono x _ _ h
/-- what it sees -/
def DnV (c : RC) (H : Hp) : D → V → Prop
  | .lst ds, v => ∃ a vs, v = .ref a ∧ H a = some (.lst vs) ∧ DnL c H ds vs
  | .dK kvs, v => ∃ a ws, v = .ref a ∧ H a = some (.dK ws) ∧ DnK c H kvs ws
  | .dT kvs, v => ∃ a ws, v = .ref a ∧ H a = some (.dT ws) ∧ DnT c H kvs ws
  | d, v => Dn c H d v
theorem DnW.see {c : RC} {H : Hp} {d : D} {v : V} (h : DnW c H d v) : DnV c H d v := by
  cases d with
  | lst ds => obtain ⟨a, vs, e, k, r, l⟩ := h; exact ⟨a, vs, e, r, l⟩
  | dK ds => obtain ⟨a, vs, e, k, r, l⟩ := h; exact ⟨a, vs, e, r, l⟩
  | dT ds => obtain ⟨a, vs, e, k, r, l⟩ := h; exact ⟨a, vs, e, r, l⟩
  | _ => exact h
theorem DnW.deref {c : RC} {H : Hp} {d d' : D} {v : V} {m : Mem} (hm : MemR c H m) (h : DnW c H d v) (e : deref m d = some d') : DnV c H d' v := by
  cases d with
  | loc l =>
    obtain ⟨a, e1, e2⟩ := h
    simp only [Ev.deref] at e
    cases q : m[l]? with
    | none => rw [q] at e; cases e
    | some o =>
      rw [q] at e
      have z := hm.at_ l a o e1 q
      cases o with
      | lst xs => cases e; obtain ⟨vs, z1, z2⟩ := z; exact ⟨a, vs, e2, z1, z2⟩
      | dK xs => cases e; obtain ⟨vs, z1, z2⟩ := z; exact ⟨a, vs, e2, z1, z2⟩
      | ins C fs => cases e
  | _ => cases e; exact h.see

/-- an object that a frame alone holds -/
def OwR (c : RC) (H : Hp) (a : Addr) : D → Prop
  | .lst ds => ∃ vs, H a = some (.lst vs) ∧ DnL c H ds vs
  | .dK kvs => ∃ ws, H a = some (.dK ws) ∧ DnK c H kvs ws
  | .dT kvs => ∃ ws, H a = some (.dT ws) ∧ DnT c H kvs ws
  | _ => False
theorem OwR.weak {c : RC} {H : Hp} {a : Addr} {d : D} (n : a ∉ c.ρ) (h : OwR c H a d) : DnW c H d (.ref a) := by
  cases d with
  | lst ds => obtain ⟨vs, e, l⟩ := h; exact ⟨a, vs, rfl, n, e, l⟩
  | dK ds => obtain ⟨vs, e, l⟩ := h; exact ⟨a, vs, rfl, n, e, l⟩
  | dT ds => obtain ⟨vs, e, l⟩ := h; exact ⟨a, vs, rfl, n, e, l⟩
  | _ => exact h.elim
def SloR (c : RC) (H : Hp) : Sl → Option V → Prop
  | .no, _ => True
  | .val d, o => ∃ v, o = some v ∧ Dn c H d v
  | .own d, o => ∃ a, o = some (.ref a) ∧ a ∈ c.ω ∧ OwR c H a d
structure EnvR (c : RC) (H : Hp) (env : Env) (σ : L2.St) : Prop where
  len : env.length = σ.length
  at_ : ∀ (i : Nat) (s : Sl) (o : Option V), env[i]? = some s → σ[i]? = some o → SloR c H s o
  inj : ∀ (i j : Nat) (d e : D) (v : V), env[i]? = some (.own d) → env[j]? = some (.own e) → σ[i]? = some (some v) → σ[j]? = some (some v) → i = j
theorem OwR.mono {c : RC} {H H' : Hp} {ρ' : List Addr} (x : Xt c H ρ' H') {a : Addr} {d : D} (n : a ∉ c.ρ) (h : OwR c H a d) : OwR (c.r ρ') H' a d := by
  cases d with
  | lst ds => obtain ⟨vs, e, l⟩ := h; exact ⟨vs, x.keep _ _ e n (fun ps z => nomatch z), DnL.mono x ds vs l⟩
  | dK ds => obtain ⟨vs, e, l⟩ := h; exact ⟨vs, x.keep _ _ e n (fun ps z => nomatch z), DnK.mono x ds vs l⟩
  | dT ds => obtain ⟨vs, e, l⟩ := h; exact ⟨vs, x.keep _ _ e n (fun ps z => nomatch z), DnT.mono x ds vs l⟩
  | _ => exact h.elim
theorem SloR.mono {c : RC} {H H' : Hp} {ρ' : List Addr} (x : Xt c H ρ' H') (dj : ∀ a ∈ c.ω, a ∉ c.ρ) {s : Sl} {o : Option V} (h : SloR c H s o) : SloR (c.r ρ') H' s o := by
  cases s with
  | no => exact True.intro
  | val d => obtain ⟨v, e, h⟩ := h; exact ⟨v, e, Dn.mono x d v h⟩
  | own d => obtain ⟨a, e, m, h⟩ := h; exact ⟨a, e, m, h.mono x (dj a m)⟩
theorem EnvR.mono {c : RC} {H H' : Hp} {ρ' : List Addr} (x : Xt c H ρ' H') (dj : ∀ a ∈ c.ω, a ∉ c.ρ) {env : Env} {σ : L2.St} (h : EnvR c H env σ) : EnvR (c.r ρ') H' env σ :=
  ⟨h.len, fun i s o e1 e2 => (h.at_ i s o e1 e2).mono x dj, h.inj⟩
theorem EnvR.set {c : RC} {H : Hp} {env : Env} {σ : L2.St} (h : EnvR c H env σ) (i : Nat) {d : D} {v : V} (hd : Dn c H d v) : EnvR c H (env.set i (.val d)) (σ.set i (some v)) := by
  refine ⟨by simp [h.len], fun j s o e1 e2 => ?_, fun j k d' e' w e1 e2 e3 e4 => ?_⟩
  · by_cases hj : i = j
    · subst hj
      have h1 : i < env.length := by simpa using (List.getElem?_eq_some_iff.mp e1).1
      rw [List.getElem?_set_self h1] at e1
      rw [List.getElem?_set_self (by rw [← h.len]; exact h1)] at e2
      cases e1; cases e2
      exact ⟨v, rfl, hd⟩
    · rw [List.getElem?_set_ne hj] at e1 e2
      exact h.at_ j s o e1 e2
  · have nj : ∀ {l : Nat} {d'' : D}, (env.set i (.val d))[l]? = some (.own d'') → i ≠ l := fun {l d''} e z => by
      subst z
      have h1 : i < env.length := by simpa using (List.getElem?_eq_some_iff.mp e).1
      rw [List.getElem?_set_self h1] at e; cases e
    have n1 := nj e1
    have n2 := nj e2
    rw [List.getElem?_set_ne n1] at e1 e3
    rw [List.getElem?_set_ne n2] at e2 e4
    exact h.inj j k d' e' w e1 e2 e3 e4
theorem EnvR.no {c : RC} {H : Hp} {env : Env} {σ : L2.St} (h : EnvR c H env σ) (i : Nat) (o : Option V) : EnvR c H (env.set i .no) (σ.set i o) := by
  refine ⟨by simp [h.len], fun j s o e1 e2 => ?_, fun j k d' e' w e1 e2 e3 e4 => ?_⟩
  · by_cases hj : i = j
    · subst hj
      have h1 : i < env.length := by simpa using (List.getElem?_eq_some_iff.mp e1).1
      rw [List.getElem?_set_self h1] at e1
      cases e1
      exact True.intro
    · rw [List.getElem?_set_ne hj] at e1 e2
      exact h.at_ j s o e1 e2
  · have nj : ∀ {l : Nat} {d'' : D}, (env.set i .no)[l]? = some (.own d'') → i ≠ l := fun {l d''} e z => by
      subst z
      have h1 : i < env.length := by simpa using (List.getElem?_eq_some_iff.mp e).1
      rw [List.getElem?_set_self h1] at e; cases e
    have n1 := nj e1
    have n2 := nj e2
    rw [List.getElem?_set_ne n1] at e1 e3
    rw [List.getElem?_set_ne n2] at e2 e4
    exact h.inj j k d' e' w e1 e2 e3 e4
theorem EnvR.wipe {c : RC} {H : Hp} {env : Env} {σ : L2.St} (h : EnvR c H env σ) : ∀ is : List Nat, EnvR c H (wipeE env is) (L2.wipe σ is)
  | [] => h
  | i :: is => (EnvR.wipe h is).no i none
/-- a new thing is laid that nothing of ours speaks of -/
theorem Xt.laid {c : RC} {H : Hp} {p : Addr} {o : HO} (n : H p = none) : Xt c H c.ρ (upd H p o) :=
  ⟨⟨[], by simp⟩, fun a h => .inl h, fun a u e _ _ => by rw [upd_ne (ne_of_none e n)]; exact e, fun a u e t => ⟨u, by rw [upd_ne (ne_of_none e n)]; exact e, t⟩⟩
theorem MoR.mono {c : RC} {H H' : Hp} {ρ' : List Addr} (x : Xt c H ρ' H') {a : Addr} (hk : ∀ o, H a = some o → H' a = some o) {o : MO} (h : MoR c H a o) : MoR (c.r ρ') H' a o := by
  cases o with
  | lst ds => obtain ⟨vs, e, l⟩ := h; exact ⟨vs, hk _ e, DnL.mono x ds vs l⟩
  | dK ds => obtain ⟨vs, e, l⟩ := h; exact ⟨vs, hk _ e, DnK.mono x ds vs l⟩
  | ins C fs => obtain ⟨A, dx, ws, g, e, l⟩ := h; exact ⟨A, dx, ws, g, hk _ e, DnF.mono x fs ws l⟩
theorem MemR.laid {c : RC} {H : Hp} {m : Mem} (h : MemR c H m) {p : Addr} {o : HO} (n : H p = none) : MemR c (upd H p o) m := by
  refine ⟨h.len, fun i a u e1 e2 => ?_, h.nd, fun a ha => ?_, h.dj, h.tabs.ext fun b u e => by rw [upd_ne (ne_of_none e n)]; exact e⟩
  · exact (h.at_ i a u e1 e2).mono (c := c) (Xt.laid n) fun w e => by rw [upd_ne (ne_of_none e n)]; exact e
  · obtain ⟨u, e, t⟩ := h.own a ha
    exact ⟨u, by rw [upd_ne (ne_of_none e n)]; exact e, t⟩
theorem MemR.ok_new {c : RC} {H : Hp} {m : Mem} (h : MemR c H m) {p : Addr} (n : H p = none) : c.ok p :=
  ⟨fun z => (h.there z).elim (fun u q => nomatch n.symm.trans q.1), fun z => (h.own p z).elim (fun u q => nomatch n.symm.trans q.1)⟩
theorem MoR.more {c : RC} {H : Hp} {p a : Addr} (n : Fr0 H p) {o : MO} (h : MoR c H a o) : MoR (c.w (p :: c.ω)) H a o := by
  cases o with
  | lst ds => obtain ⟨vs, e, l⟩ := h; exact ⟨vs, e, DnL.more n ds vs l⟩
  | dK ds => obtain ⟨vs, e, l⟩ := h; exact ⟨vs, e, DnK.more n ds vs l⟩
  | ins C fs => obtain ⟨A, dx, ws, g, e, l⟩ := h; exact ⟨A, dx, ws, g, e, DnF.more n fs ws l⟩
theorem OwR.more {c : RC} {H : Hp} {p a : Addr} (n : Fr0 H p) {d : D} (h : OwR c H a d) : OwR (c.w (p :: c.ω)) H a d := by
  cases d with
  | lst ds => obtain ⟨vs, e, l⟩ := h; exact ⟨vs, e, DnL.more n ds vs l⟩
  | dK ds => obtain ⟨vs, e, l⟩ := h; exact ⟨vs, e, DnK.more n ds vs l⟩
  | dT ds => obtain ⟨vs, e, l⟩ := h; exact ⟨vs, e, DnT.more n ds vs l⟩
  | _ => exact h.elim
theorem EnvR.more {c : RC} {H : Hp} {p : Addr} (n : Fr0 H p) {env : Env} {σ : L2.St} (h : EnvR c H env σ) : EnvR (c.w (p :: c.ω)) H env σ := by
  refine ⟨h.len, fun i s o e1 e2 => ?_, h.inj⟩
  have q := h.at_ i s o e1 e2
  cases s with
  | no => exact True.intro
  | val d => obtain ⟨v, e, q⟩ := q; exact ⟨v, e, Dn.more n d v q⟩
  | own d => obtain ⟨a, e, m, q⟩ := q; exact ⟨a, e, List.mem_cons_of_mem _ m, q.more n⟩
theorem MoR.less {c : RC} {H : Hp} {ω' : List Addr} (hs : ∀ a ∈ ω', a ∈ c.ω) {a : Addr} {o : MO} (h : MoR c H a o) : MoR (c.w ω') H a o := by
  cases o with
  | lst ds => obtain ⟨vs, e, l⟩ := h; exact ⟨vs, e, DnL.less hs ds vs l⟩
  | dK ds => obtain ⟨vs, e, l⟩ := h; exact ⟨vs, e, DnK.less hs ds vs l⟩
  | ins C fs => obtain ⟨A, dx, ws, g, e, l⟩ := h; exact ⟨A, dx, ws, g, e, DnF.less hs fs ws l⟩
theorem MemR.less {c : RC} {H : Hp} {m : Mem} {ω' : List Addr} (hs : ∀ a ∈ ω', a ∈ c.ω) (h : MemR c H m) : MemR (c.w ω') H m :=
  ⟨h.len, fun i a o e1 e2 => (h.at_ i a o e1 e2).less hs, h.nd, fun a ha => h.own a (hs a ha), fun a ha => h.dj a (hs a ha), h.tabs⟩
/-- p is laid and held alone -/
theorem MemR.hold {c : RC} {H : Hp} {m : Mem} (h : MemR c H m) {p : Addr} {o : HO} (n : H p = none) (t : ∀ ps, o ≠ .tbl ps) : MemR (c.w (p :: c.ω)) (upd H p o) m := by
  have h1 : MemR (c.w (p :: c.ω)) (upd H p o) m := by
    refine ⟨h.len, fun i a u e1 e2 => ?_, h.nd, fun a ha => ?_, fun a ha => ?_, h.tabs.ext fun b u e => by rw [upd_ne (ne_of_none e n)]; exact e⟩
    · exact MoR.mono (c := c.w (p :: c.ω)) (Xt.laid n) (fun w e => by rw [upd_ne (ne_of_none e n)]; exact e) ((h.at_ i a u e1 e2).more (fr0_none n))
    · rcases List.mem_cons.mp ha with e | ha
      · subst e; exact ⟨o, upd_same, t⟩
      · obtain ⟨u, e, t⟩ := h.own a ha
        exact ⟨u, by rw [upd_ne (ne_of_none e n)]; exact e, t⟩
    · rcases List.mem_cons.mp ha with e | ha
      · subst e; exact (h.ok_new n).r
      · exact h.dj a ha
  exact h1
/-- what is held alone is changed -/
theorem Xw.own {c : RC} {H : Hp} {p : Addr} {o : HO} (hp : p ∈ c.ω) : Xw c H c.ρ (upd H p o) :=
  ⟨⟨[], by simp⟩, fun a h => .inl h, fun a u e k _ => by have n : a ≠ p := (fun z => by subst z; exact k.w hp); rw [upd_ne n]; exact e⟩
theorem MoR.own {c : RC} {H : Hp} {p a : Addr} {u : HO} (hp : p ∈ c.ω) (n : a ≠ p) {o : MO} (h : MoR c H a o) : MoR c (upd H p u) a o := by
  cases o with
  | lst ds => obtain ⟨vs, e, l⟩ := h; exact ⟨vs, by rw [upd_ne n]; exact e, DnL.monoW (c := c) (Xw.own hp) ds vs l⟩
  | dK ds => obtain ⟨vs, e, l⟩ := h; exact ⟨vs, by rw [upd_ne n]; exact e, DnK.monoW (c := c) (Xw.own hp) ds vs l⟩
  | ins C fs => obtain ⟨A, dx, ws, g, e, l⟩ := h; exact ⟨A, dx, ws, g, by rw [upd_ne n]; exact e, DnF.monoW (c := c) (Xw.own hp) fs ws l⟩
theorem tabs_upd {T : List (Addr × Str)} {H : Hp} {p : Addr} {o u : HO} (e : H p = some o) (t : ∀ ps, o ≠ .tbl ps) (hx : ∀ c q, o ≠ LamX.CodeO c q) (h : LamX.Tabs T H) : LamX.Tabs T (upd H p u) := by
  intro q hq
  obtain ⟨ps, h1, h2, h3⟩ := h q hq
  refine ⟨ps, ?_, h2, fun pos cv hc => ?_⟩
  · rw [upd_ne (fun z => by rw [z, e] at h1; exact t ps (Option.some.inj h1))]; exact h1
  · obtain ⟨c, e1, e2⟩ := h3 pos cv hc
    refine ⟨c, e1, ?_⟩
    rw [upd_ne (fun z => by rw [z, e] at e2; exact hx _ _ (Option.some.inj e2))]; exact e2
theorem MemR.own_upd {c : RC} {H : Hp} {m : Mem} (h : MemR c H m) {p : Addr} {o u : HO} (hp : p ∈ c.ω) (e : H p = some o) (to : ∀ ps, o ≠ .tbl ps) (hx : ∀ c q, o ≠ LamX.CodeO c q) (tu : ∀ ps, u ≠ .tbl ps) : MemR c (upd H p u) m := by
  refine ⟨h.len, fun i a w e1 e2 => (h.at_ i a w e1 e2).own hp (fun z => by subst z; exact h.dj a hp (List.mem_of_getElem? e1)), h.nd, fun a ha => ?_, h.dj, tabs_upd e to hx h.tabs⟩
  by_cases z : a = p
  · subst z; exact ⟨u, upd_same, tu⟩
  · obtain ⟨w, e1, t⟩ := h.own a ha
    exact ⟨w, by rw [upd_ne z]; exact e1, t⟩
theorem lst_code {xs : List V} : ∀ c q, HO.lst xs ≠ LamX.CodeO c q := fun c q z => by unfold LamX.CodeO at z; cases z
end Ev
end
section
set_option Elab.async false
set_option linter.all false
set_option maxRecDepth 100000
/-! Ev: readings by the evaluator, and how they are put together. -/
namespace Ev
open PySem PySem.Spec PyProof.Rows L2

/-- an exception's class and own dict -/
def ExR (c : RC) (H : Hp) (C : Str) (fs : List (Str × D)) (A : Addr) (d : Option Addr) : Prop :=
  c.mg C = some (.ref A) ∧ ((fs = [] ∧ d = none) ∨ ∃ dd ws, d = some dd ∧ c.ok dd ∧ H dd = some (.xd ws) ∧ DnF c H fs ws)
abbrev Rel (α β : Type) := RC → Hp → α → β → Prop
def PostG {α β : Type} (R : Rel α β) (c : RC) (H : Hp) (r : Res α) (Q : β → Hp → Prop) (Ex : XK) : Prop :=
  match r with
  | .ok a m => ∀ ρ' H' b, Xt c H ρ' H' → R (c.r ρ') H' a b → MemR (c.r ρ') H' m → Q b H'
  | .exc C fs m => ∀ ρ' H' A d, Xt c H ρ' H' → ExR (c.r ρ') H' C fs A d → MemR (c.r ρ') H' m → Ex (.ref A) d H'
  | .bad => False
section
variable {α β γ δ : Type} {R : Rel α β} {S : Rel γ δ} {c : RC} {H H1 : Hp} {ρ1 : List Addr} {Q : β → Hp → Prop} {Ex : XK}
theorem PostG.after {r : Res α} (x : Xt c H ρ1 H1) (h : PostG R c H r Q Ex) : PostG R (c.r ρ1) H1 r Q Ex := by
  cases r with
  | ok a m => exact fun ρ' H' b y hr hm => h ρ' H' b (x.trans y) hr hm
  | exc C fs m => exact fun ρ' H' A d y hr hm => h ρ' H' A d (x.trans y) hr hm
  | bad => exact h.elim
theorem PostG.bind {r : Res γ} {f : γ → M α} {Q1 : δ → Hp → Prop} (h : PostG R c H (r.bind f) Q Ex)
    (k : ∀ ρ1 H1 a b m1, Xt c H ρ1 H1 → S (c.r ρ1) H1 a b → MemR (c.r ρ1) H1 m1 → PostG R (c.r ρ1) H1 (f a m1) Q Ex → Q1 b H1) : PostG S c H r Q1 Ex := by
  cases r with
  | ok a m => exact fun ρ' H' b y hr hm => k ρ' H' a b m y hr hm (PostG.after y h)
  | exc C fs m => exact h
  | bad => exact h.elim
theorem PostG.ret {a : α} {b : β} {m : Mem} (h : PostG R c H (.ok a m) Q Ex) (hr : R c H a b) (hm : MemR c H m) : Q b H := h c.ρ H b (Xt.refl c H) hr hm
theorem PostG.new {a : α} {b : β} {m : Mem} {p : Addr} {o : HO} (h : PostG R c H (.ok a m) Q Ex) (n : H p = none) (hr : R c (upd H p o) a b) (hm : MemR c H m) : Q b (upd H p o) :=
  h c.ρ _ b (Xt.laid n) hr (hm.laid n)
end
abbrev RC.at (g : RC) (ρ ω : List Addr) : RC := ⟨g.K, g.mg, g.T, ρ, ω, g.P⟩
/-- the reading: what f gives over the slots -/
def rdM (g : RC) {α β : Type} (R : Rel α β) (f : Env → M α) (W : WX) : L2.St → Hp → (β → Hp → Prop) → Prop := fun σ H Q =>
  ∃ ρ ω env m, EnvR (g.at ρ ω) H env σ ∧ MemR (g.at ρ ω) H m ∧ PostG R (g.at ρ ω) H (f env m) Q fun cls d H' => W cls d σ H'
theorem PE.imp {X : Cx} {e : Expr} {t t' : TE} (h : PE X e t) (k : ∀ σ H Q, t' σ H Q → t σ H Q) : PE X e t' := ⟨fun pins s σ H Q I hw => h.run pins s σ H Q I (k σ H Q hw)⟩
theorem PT.imp {X : Cx} {e : Expr} {t t' : TT} (h : PT X e t) (k : ∀ σ H Q, t' σ H Q → t σ H Q) : PT X e t' := ⟨fun pins s σ H Q I hw => h.run pins s σ H Q I (k σ H Q hw)⟩
theorem PW.imp {X : Cx} {e : Expr} {t t' : TT} (h : PW X e t) (k : ∀ σ H Q, t' σ H Q → t σ H Q) : PW X e t' := ⟨fun wh pins s σ H Q I hw => h.run wh pins s σ H Q I (k σ H Q hw)⟩
theorem PA.imp {X : Cx} {e : List Expr} {t t' : TA} (h : PA X e t) (k : ∀ σ H Q, t' σ H Q → t σ H Q) : PA X e t' := ⟨fun p pins s σ H Q I hw => h.run p pins s σ H Q I (k σ H Q hw)⟩
theorem PS.imp {X : Cx} {e : Stmt} {t t' : TS} (h : PS X e t) (k : ∀ D σ H, t' D σ H → t D σ H) : PS X e t' := ⟨fun pins s σ H D I hw => h.run pins s σ H D I (k D σ H hw)⟩
theorem PSs.imp {X : Cx} {e : List Stmt} {t t' : TS} (h : PSs X e t) (k : ∀ D σ H, t' D σ H → t D σ H) : PSs X e t' := ⟨fun pins s σ H D I hw => h.run pins s σ H D I (k D σ H hw)⟩
/-- the slots again, later -/
theorem EnvR.later {g : RC} {ρ ω ρ1 : List Addr} {H H1 : Hp} {env : Env} {σ : L2.St} {m : Mem} (h : EnvR (g.at ρ ω) H env σ) (hm : MemR (g.at ρ ω) H m) (x : Xt (g.at ρ ω) H ρ1 H1) : EnvR (g.at ρ1 ω) H1 env σ := h.mono x hm.dj

/-! ### data as the library's data -/
mutual
theorem Dn.dp {c : RC} {H : Hp} : ∀ (d : D) (v : V) (p : PyData), Dn c H d v → toPy d = some p → Dp c.K H v p
  | .non, v, p, h, e => by cases e; rw [show v = _ from h]; exact .non
  | .bl b, v, p, h, e => by cases e; rw [show v = _ from h]; exact .bl b
  | .int b, v, p, h, e => by cases e; rw [show v = _ from h]; exact .int b
  | .str b, v, p, h, e => by cases e; rw [show v = _ from h]; exact .str b
  | .tup ds, v, p, ⟨a, vs, e1, _, r, l⟩, e => by
    unfold toPy at e
    cases q : toPys ds with
    | none => rw [q] at e; cases e
    | some xs => rw [q] at e; cases e; rw [e1]; exact .tup (SqT.of r) (DnL.dp ds vs xs l q)
  | .lst ds, v, p, ⟨a, vs, e1, _, r, l⟩, e => by
    unfold toPy at e
    cases q : toPys ds with
    | none => rw [q] at e; cases e
    | some xs => rw [q] at e; cases e; rw [e1]; exact .lst (SqL.of r) (DnL.dp ds vs xs l q)
  | .frz _, _, _, _, e => nomatch e
  | .dK _, _, _, _, e => nomatch e
  | .dT _, _, _, _, e => nomatch e
  | .ins _ _, _, _, _, e => nomatch e
  | .exc _ _, _, _, _, e => nomatch e
  | .fn _, _, _, _, e => nomatch e
  | .loc _, _, _, _, e => nomatch e
theorem DnL.dp {c : RC} {H : Hp} : ∀ (ds : List D) (vs : List V) (ps : List PyData), DnL c H ds vs → toPys ds = some ps → DpAll c.K H vs ps
  | [], [], _, _, e => by cases e; exact .nil
  | d :: ds, v :: vs, ps, ⟨h, t⟩, e => by
    unfold toPys at e
    cases q1 : toPy d with
    | none => rw [q1] at e; cases e
    | some x =>
      cases q2 : toPys ds with
      | none => rw [q1, q2] at e; cases e
      | some xs => rw [q1, q2] at e; cases e; exact .cons (Dn.dp d v x h q1) (DnL.dp ds vs xs t q2)
  | [], _ :: _, _, h, _ => h.elim
  | _ :: _, [], _, h, _ => h.elim
end
theorem DnV.dp {c : RC} {H : Hp} {d : D} {v : V} {p : PyData} (h : DnV c H d v) (e : toPy d = some p) : Dp c.K H v p := by
  cases d with
  | lst ds =>
    obtain ⟨a, vs, e1, r, l⟩ := h
    unfold toPy at e
    cases q : toPys ds with
    | none => rw [q] at e; cases e
    | some xs => rw [q] at e; cases e; rw [e1]; exact .lst (SqL.of r) (DnL.dp ds vs xs l q)
  | dK _ => exact nomatch e
  | dT _ => exact nomatch e
  | _ => exact Dn.dp _ _ _ h e
end Ev
end
section
set_option Elab.async false
set_option linter.all false
set_option maxRecDepth 100000
set_option maxHeartbeats 2000000
/-! Ev: the operators by data. -/
namespace Ev
open PySem PySem.Spec PyProof.Rows L2

theorem line_eq : line = sizeLine := sizeLine_eq.symm
/-- what is wanted of the value d -/
def Fin (g : RC) (ρ ω : List Addr) (H : Hp) (m : Mem) (d : D) (Q : VK) : Prop := ∀ ρ' H' v, Xt (g.at ρ ω) H ρ' H' → Dn (g.at ρ' ω) H' d v → MemR (g.at ρ' ω) H' m → Q v H'
theorem Fin.ret {g : RC} {ρ ω : List Addr} {H : Hp} {m : Mem} {d : D} {Q : VK} {v : V} (q : Fin g ρ ω H m d Q) (hm : MemR (g.at ρ ω) H m) (h : Dn (g.at ρ ω) H d v) : Q v H := q ρ H v (Xt.refl _ H) h hm
theorem Fin.new {g : RC} {ρ ω : List Addr} {H : Hp} {m : Mem} {d : D} {Q : VK} {v : V} {p : Addr} {o : HO} (q : Fin g ρ ω H m d Q) (hm : MemR (g.at ρ ω) H m) (n : H p = none) (h : Dn (g.at ρ ω) (upd H p o) d v) : Q v (upd H p o) :=
  q ρ _ v (Xt.laid n) h (hm.laid n)
theorem Dn.laid {c : RC} {H : Hp} {d : D} {v : V} {p : Addr} {o : HO} (n : H p = none) (h : Dn c H d v) : Dn c (upd H p o) d v := Dn.mono (c := c) (Xt.laid n) d v h
theorem DnL.laid {c : RC} {H : Hp} {d : List D} {v : List V} {p : Addr} {o : HO} (n : H p = none) (h : DnL c H d v) : DnL c (upd H p o) d v := DnL.mono (c := c) (Xt.laid n) d v h
/-- a new tuple, a new list -/
theorem Fin.tup {g : RC} {ρ ω : List Addr} {H : Hp} {m : Mem} {ds : List D} {vs : List V} {Q : VK} {p : Addr} (q : Fin g ρ ω H m (.tup ds) Q) (hm : MemR (g.at ρ ω) H m) (n : H p = none) (h : DnL (g.at ρ ω) H ds vs) : Q (.ref p) (upd H p (.tup vs)) :=
  q.new hm n ⟨p, vs, rfl, hm.ok_new n, upd_same, DnL.laid n h⟩
theorem Fin.lst {g : RC} {ρ ω : List Addr} {H : Hp} {m : Mem} {ds : List D} {vs : List V} {Q : VK} {p : Addr} (q : Fin g ρ ω H m (.lst ds) Q) (hm : MemR (g.at ρ ω) H m) (n : H p = none) (h : DnL (g.at ρ ω) H ds vs) : Q (.ref p) (upd H p (.lst vs)) :=
  q.new hm n ⟨p, vs, rfl, hm.ok_new n, upd_same, DnL.laid n h⟩

def opOf : BinK → Operator
  | .add => .Add | .sub => .Sub | .mul => .Mult | .mod => .Mod | .fdiv => .FloorDiv | .pow => .Pow
def rBin (g : RC) (o : BinK) : R2 := fun x y H Q => ∃ ρ ω m dx dy d, MemR (g.at ρ ω) H m ∧ DnV (g.at ρ ω) H dx x ∧ DnV (g.at ρ ω) H dy y ∧ binD o dx dy = some d ∧ Fin g ρ ω H m d Q
theorem DnL.rep {c : RC} {H : Hp} {ds : List D} {vs : List V} (h : DnL c H ds vs) : ∀ k : Nat, DnL c H (List.replicate k ds).flatten (List.replicate k vs).flatten
  | 0 => True.intro
  | k + 1 => by
    rw [List.replicate_succ, List.replicate_succ, List.flatten_cons, List.flatten_cons]
    exact h.append (DnL.rep h k)
theorem DnL.nil_iff {c : RC} {H : Hp} {ds : List D} {vs : List V} (h : DnL c H ds vs) : ds = [] ↔ vs = [] := by
  have := h.length
  constructor
  · intro e; subst e; exact List.eq_nil_of_length_eq_zero this.symm
  · intro e; subst e; exact List.eq_nil_of_length_eq_zero this
section
variable {X : Cx} {g : RC}
theorem op_bin (hK : X.K = g.K) (o : BinK) : OpR X (binaryOp (opOf o)) (rBin g o) := by
  intro pins s σ H x y v u Q I rx ry ⟨ρ, ω, m, dx, dy, d, hm, hx, hy, hd, q⟩
  unfold binD at hd
  split at hd
  · cases hd; exact op_add pins s σ H x y v u Q I rx ry ⟨_, _, hx, hy, q.ret hm rfl⟩
  · cases hd; exact op_sub pins s σ H x y v u Q I rx ry ⟨_, _, hx, hy, q.ret hm rfl⟩
  · split at hd
    · rename_i hc
      cases hd
      refine op_mul pins s σ H x y v u Q I rx ry ⟨_, _, hx, hy, ?_, q.ret hm rfl⟩
      unfold mulOk at hc
      rw [Bool.or_eq_true, decide_eq_true_eq, decide_eq_true_eq] at hc
      rcases hc with hc | hc
      · exact .inl ⟨by omega, by omega⟩
      · exact .inr ⟨by omega, by omega⟩
    · cases hd
  · split at hd
    · cases hd
    · rename_i hc; cases hd
      exact op_modN pins s σ H x y v u Q I rx ry ⟨_, _, hx, hy, hc, q.ret hm rfl⟩
  · split at hd
    · rename_i hc; cases hd
      exact op_fdivN pins s σ H x y v u Q I rx ry ⟨_, _, hx, hy, hc, q.ret hm rfl⟩
    · cases hd
  · split at hd
    · rename_i hc; cases hd
      exact op_pow pins s σ H x y v u Q I rx ry ⟨_, _, hx, hy, hc, q.ret hm rfl⟩
    · cases hd
  · split at hd
    · rename_i hc; cases hd
      exact op_add_str pins s σ H x y v u Q I rx ry ⟨_, _, hx, hy, by rw [← line_eq]; exact hc, q.ret hm rfl⟩
    · cases hd
  · split at hd
    · rename_i hc; cases hd
      obtain ⟨a, vs, rfl, ka, ra, la⟩ := hx
      obtain ⟨b, ws, rfl, kb, rb, lb⟩ := hy
      refine op_catA pins s σ H _ _ v u Q I rx ry ⟨a, b, vs, ws, rfl, rfl, SqT.of ra, SqT.of rb, ?_, fun e => ?_, fun n e => ?_, fun _ _ p hp => q.tup hm hp (la.append lb)⟩
      · rw [← la.length, ← lb.length, ← line_eq]; exact hc
      · subst e
        have z := la.nil_iff.mpr rfl
        subst z
        exact q.ret hm ⟨b, ws, rfl, kb, rb, lb⟩
      · subst e
        have z := lb.nil_iff.mpr rfl
        subst z
        rw [List.append_nil] at q
        exact q.ret hm ⟨a, vs, rfl, ka, ra, la⟩
    · cases hd
  · split at hd
    · rename_i hc; cases hd
      obtain ⟨a, vs, rfl, ra, la⟩ := hx
      obtain ⟨b, ws, rfl, rb, lb⟩ := hy
      exact op_cat pins s σ H _ _ v u Q I rx ry ⟨a, b, vs, ws, rfl, rfl, ra, rb, by rw [← la.length, ← lb.length, ← line_eq]; exact hc, fun p hp => q.lst hm hp (la.append lb)⟩
    · cases hd
  · split at hd
    · rename_i hc; cases hd
      obtain ⟨a, vs, rfl, ka, ra, la⟩ := hx
      obtain ⟨h1, h2, h3, h4⟩ := hc
      refine op_repT pins s σ H _ _ v u Q I rx ry ⟨a, _, vs, rfl, hy, SqT.of ra, fun e => h1 (la.nil_iff.mpr e), h2, h3, by rw [← la.length]; exact h4, fun p hp => q.tup hm hp (la.rep _)⟩
    · cases hd
  · split at hd
    · rename_i hc; cases hd
      obtain ⟨a, vs, rfl, ra, la⟩ := hx
      exact op_rep pins s σ H _ _ v u Q I rx ry ⟨a, _, vs, rfl, hy, ra, by omega, by omega, by rw [← la.length, ← line_eq]; exact hc.2.2, fun p hp => q.lst hm hp (la.rep _)⟩
    · cases hd
  · cases hd

/-! ### comparisons -/
def cmpOf : CmpK → CmpOp
  | .eq => .Eq | .ne => .NotEq | .lt => .Lt | .le => .LtE | .gt => .Gt | .ge => .GtE | .isin => .In | .notin => .NotIn | .is => .Is | .isnot => .IsNot
def rCmp (g : RC) (o : CmpK) : R2 := fun x y H Q => ∃ ρ ω m dx dy k, MemR (g.at ρ ω) H m ∧ DnV (g.at ρ ω) H dx x ∧ DnV (g.at ρ ω) H dy y ∧ cmpD o dx dy = some k ∧ Q (.bl k) H
theorem keyOf_kV {c : RC} {H : Hp} {d : D} {v : V} {k : Key} (h : DnV c H d v) (e : keyOf d = some k) : v = kV k := by
  cases d <;> first | (cases e; exact h) | exact nomatch e
theorem keysOf_kV {c : RC} {H : Hp} : ∀ {ds : List D} {vs : List V} {ks : List Key}, DnL c H ds vs → keysOf ds = some ks → vs = ks.map kV
  | [], [], _, _, e => by cases e; rfl
  | d :: ds, v :: vs, ks, ⟨h, t⟩, e => by
    unfold keysOf at e
    cases q1 : keyOf d with
    | none => rw [q1] at e; cases e
    | some x =>
      cases q2 : keysOf ds with
      | none => rw [q1, q2] at e; cases e
      | some xs =>
        rw [q1, q2] at e; cases e
        rw [keyOf_kV h.weak.see q1, keysOf_kV t q2]; rfl
  | [], _ :: _, _, h, _ => h.elim
  | _ :: _, [], _, h, _ => h.elim
theorem getK_K {c : RC} {H : Hp} {k : Key} : ∀ {kvs : List (Key × D)} {ws : List (Key × V)}, DnK c H kvs ws → (getK kvs k = none ∧ valV ws k = none) ∨ ∃ d v, getK kvs k = some d ∧ valV ws k = some v ∧ Dn c H d v
  | [], [], _ => .inl ⟨rfl, rfl⟩
  | (k1, d) :: ds, (k2, v) :: vs, ⟨e, h, t⟩ => by
    subst e
    by_cases q : k1 = k
    · exact .inr ⟨d, v, by simp [getK, List.find?_cons, q], valV_pos q, h⟩
    · have z1 : getK ((k1, d) :: ds) k = getK ds k := by simp [getK, List.find?_cons, q]
      rw [z1, valV_neg q]
      exact getK_K t
  | [], _ :: _, h => h.elim
  | _ :: _, [], h => h.elim
theorem getK_T {c : RC} {H : Hp} {k : List Key} : ∀ {kvs : List (List Key × D)} {ws : List (List Key × V)}, DnT c H kvs ws → (getK kvs k = none ∧ valV ws k = none) ∨ ∃ d v, getK kvs k = some d ∧ valV ws k = some v ∧ Dn c H d v
  | [], [], _ => .inl ⟨rfl, rfl⟩
  | (k1, d) :: ds, (k2, v) :: vs, ⟨e, h, t⟩ => by
    subst e
    by_cases q : k1 = k
    · exact .inr ⟨d, v, by simp [getK, List.find?_cons, q], valV_pos q, h⟩
    · have z1 : getK ((k1, d) :: ds) k = getK ds k := by simp [getK, List.find?_cons, q]
      rw [z1, valV_neg q]
      exact getK_T t
  | [], _ :: _, h => h.elim
  | _ :: _, [], h => h.elim
/-- what a dict is asked by data -/
theorem dgetK {c : RC} {H : Hp} {kvs : List (Key × D)} {dk : D} {k : Key} {x y : V} (hx : DnV c H (.dK kvs) x) (hy : DnV c H dk y) (e : keyOf dk = some k) :
    ∃ a o, x = .ref a ∧ DGet H a y o ∧ ((getK kvs k = none ∧ o = none) ∨ ∃ d v, getK kvs k = some d ∧ o = some v ∧ Dn c H d v) := by
  obtain ⟨a, ws, rfl, r, l⟩ := hx
  have := keyOf_kV hy e
  subst this
  exact ⟨a, _, rfl, DGet.k r, getK_K l⟩
theorem dgetT {c : RC} {H : Hp} {kvs : List (List Key × D)} {ds : List D} {k : List Key} {x y : V} (hx : DnV c H (.dT kvs) x) (hy : DnV c H (.tup ds) y) (e : keysOf ds = some k) :
    ∃ a o, x = .ref a ∧ DGet H a y o ∧ ((getK kvs k = none ∧ o = none) ∨ ∃ d v, getK kvs k = some d ∧ o = some v ∧ Dn c H d v) := by
  obtain ⟨a, ws, rfl, r, l⟩ := hx
  obtain ⟨b, vs, rfl, _, rb, lb⟩ := hy
  have := keysOf_kV lb e
  subst this
  exact ⟨a, _, rfl, DGet.t r rb, getK_T l⟩
theorem op_inTD (hu : X.A.units + 65 < cLine) : OpR X (compareOp .In) (fun x y H Q => ∃ d ds, Dp X.K H x d ∧ Dp X.K H y (.tuple ds) ∧ SeqAt.shaped d = true ∧ SeqAt.shaped (.list ds) = true ∧ Q (.bl (ds.any fun z => PyData.eqv z d)) H) := by
  intro pins s σ H x y v u Q I rx ry h
  obtain ⟨d, ds, hd, he, sd, se, q⟩ := h
  obtain ⟨as, r1⟩ := Dp.reads I d x v hd rx
  obtain ⟨bs, r2⟩ := Dp.reads I (.tuple ds) y u he ry
  exact SeqAt.in_tuple_reads r2 r1 (SeqAt.canLay_of_shaped se) (SeqAt.canLay_of_shaped sd) (PyProof.Rows.room_in_shaped sd hu) ⟨.bl _, H, I, rfl, q⟩
theorem op_notInTD (hu : X.A.units + 65 < cLine) : OpR X (compareOp .NotIn) (fun x y H Q => ∃ d ds, Dp X.K H x d ∧ Dp X.K H y (.tuple ds) ∧ SeqAt.shaped d = true ∧ SeqAt.shaped (.list ds) = true ∧ Q (.bl (!ds.any fun z => PyData.eqv z d)) H) := by
  intro pins s σ H x y v u Q I rx ry h
  obtain ⟨d, ds, hd, he, sd, se, q⟩ := h
  obtain ⟨as, r1⟩ := Dp.reads I d x v hd rx
  obtain ⟨bs, r2⟩ := Dp.reads I (.tuple ds) y u he ry
  exact SeqAt.notIn_tuple_reads r2 r1 (SeqAt.canLay_of_shaped se) (SeqAt.canLay_of_shaped sd) (PyProof.Rows.room_in_shaped sd hu) ⟨.bl _, H, I, rfl, q⟩
theorem eqD_some {a b : D} {k : Bool} (h : eqD a b = some k) : ∃ x y, toPy a = some x ∧ toPy b = some y ∧ SeqAt.shaped x = true ∧ SeqAt.shaped y = true ∧ k = PyData.eqv x y := by
  unfold eqD at h
  split at h
  · rename_i x y e1 e2
    split at h
    · rename_i e
      cases h
      rw [Bool.and_eq_true] at e
      exact ⟨x, y, e1, e2, e.1, e.2, rfl⟩
    · cases h
  · cases h
theorem inD_some {a : D} {b : List D} {k : Bool} (h : inD a b = some k) : ∃ x ys, toPy a = some x ∧ toPys b = some ys ∧ SeqAt.shaped x = true ∧ SeqAt.shaped (.list ys) = true ∧ k = ys.any fun z => PyData.eqv z x := by
  unfold inD at h
  split at h
  · rename_i x y e1 e2
    split at h
    · rename_i e
      cases h
      rw [Bool.and_eq_true] at e
      exact ⟨x, y, e1, e2, e.1, e.2, rfl⟩
    · cases h
  · cases h
theorem toPy_lst {ds : List D} {ys : List PyData} (h : toPys ds = some ys) : toPy (.lst ds) = some (.list ys) := by unfold toPy; rw [h]; rfl
theorem toPy_tup {ds : List D} {ys : List PyData} (h : toPys ds = some ys) : toPy (.tup ds) = some (.tuple ys) := by unfold toPy; rw [h]; rfl
theorem map_not_some {o : Option Bool} {k : Bool} (h : o.map (!·) = some k) : ∃ j, o = some j ∧ k = !j := by
  cases o with
  | none => cases h
  | some j => cases h; exact ⟨j, rfl, rfl⟩
theorem non_ne {c : RC} {H : Hp} {d : D} {v : V} (h : DnV c H d v) (hd : d ≠ .non) (hf : ∀ x, d ≠ .fn x) : v ≠ .non := by
  intro e; subst e
  cases d with
  | non => exact hd rfl
  | fn x => exact hf x rfl
  | bl b => exact nomatch (show V.non = V.bl b from h)
  | int b => exact nomatch (show V.non = V.int b from h)
  | str b => exact nomatch (show V.non = V.str b from h)
  | tup ds => obtain ⟨a, vs, e, _⟩ := h; exact nomatch e
  | lst ds => obtain ⟨a, vs, e, _⟩ := h; exact nomatch e
  | frz ds => obtain ⟨a, vs, e, _⟩ := h; exact nomatch e
  | dK ds => obtain ⟨a, vs, e, _⟩ := h; exact nomatch e
  | dT ds => obtain ⟨a, vs, e, _⟩ := h; exact nomatch e
  | ins C fs => obtain ⟨a, A, dx, ws, e, _⟩ := h; exact nomatch e
  | exc C fs => obtain ⟨a, A, dx, e, _⟩ := h; exact nomatch e
  | loc l => obtain ⟨a, _, e⟩ := h; exact nomatch e
theorem op_cmp (hK : X.K = g.K) (hu : X.A.units + 65 < cLine) (o : CmpK) : OpR X (compareOp (cmpOf o)) (rCmp g o) := by
  intro pins s σ H x y v u Q I rx ry ⟨ρ, ω, m, dx, dy, k, hm, hx, hy, hd, q⟩
  have dp : ∀ {d : D} {w : V} {p : PyData}, DnV (g.at ρ ω) H d w → toPy d = some p → Dp X.K H w p := fun h e => by rw [hK]; exact h.dp e
  unfold cmpD at hd
  split at hd
  · obtain ⟨p, p', e1, e2, s1, s2, rfl⟩ := eqD_some hd
    exact op_eqD (by omega) pins s σ H x y v u Q I rx ry ⟨p, p', dp hx e1, dp hy e2, s1, s2, q⟩
  · obtain ⟨j, hd2, rfl⟩ := map_not_some hd
    obtain ⟨p, p', e1, e2, s1, s2, rfl⟩ := eqD_some hd2
    exact op_neD (by omega) pins s σ H x y v u Q I rx ry ⟨p, p', dp hx e1, dp hy e2, s1, s2, q⟩
  · cases hd; exact op_lt pins s σ H x y v u Q I rx ry ⟨_, _, hx, hy, q⟩
  · cases hd; exact op_le pins s σ H x y v u Q I rx ry ⟨_, _, hx, hy, q⟩
  · cases hd; exact op_gt pins s σ H x y v u Q I rx ry ⟨_, _, hx, hy, q⟩
  · cases hd; exact op_ge pins s σ H x y v u Q I rx ry ⟨_, _, hx, hy, q⟩
  · obtain ⟨k0, hk, rfl⟩ := Option.map_eq_some_iff.mp hd
    obtain ⟨a, o, rfl, hg, ho⟩ := dgetK hy hx hk
    obtain rfl : u = Value.ref a := ry
    refine d_in (by omega) I hg rx fun s' I' => ⟨.bl o.isSome, H, I', rfl, ?_⟩
    rcases ho with ⟨h1, h2⟩ | ⟨d, w, h1, h2, _⟩
    · rw [h1] at q; rw [h2]; exact q
    · rw [h1] at q; rw [h2]; exact q
  · obtain ⟨k0, hk, rfl⟩ := Option.map_eq_some_iff.mp hd
    obtain ⟨a, o, rfl, hg, ho⟩ := dgetK hy hx hk
    obtain rfl : u = Value.ref a := ry
    refine d_notIn (by omega) I hg rx fun s' I' => ⟨.bl (!o.isSome), H, I', rfl, ?_⟩
    rcases ho with ⟨h1, h2⟩ | ⟨d, w, h1, h2, _⟩
    · rw [h1] at q; rw [h2]; exact q
    · rw [h1] at q; rw [h2]; exact q
  · obtain ⟨k0, hk, rfl⟩ := Option.map_eq_some_iff.mp hd
    obtain ⟨a, o, rfl, hg, ho⟩ := dgetT hy hx hk
    obtain rfl : u = Value.ref a := ry
    refine d_in (by omega) I hg rx fun s' I' => ⟨.bl o.isSome, H, I', rfl, ?_⟩
    rcases ho with ⟨h1, h2⟩ | ⟨d, w, h1, h2, _⟩
    · rw [h1] at q; rw [h2]; exact q
    · rw [h1] at q; rw [h2]; exact q
  · obtain ⟨k0, hk, rfl⟩ := Option.map_eq_some_iff.mp hd
    obtain ⟨a, o, rfl, hg, ho⟩ := dgetT hy hx hk
    obtain rfl : u = Value.ref a := ry
    refine d_notIn (by omega) I hg rx fun s' I' => ⟨.bl (!o.isSome), H, I', rfl, ?_⟩
    rcases ho with ⟨h1, h2⟩ | ⟨d, w, h1, h2, _⟩
    · rw [h1] at q; rw [h2]; exact q
    · rw [h1] at q; rw [h2]; exact q
  · cases hd; exact op_in_str pins s σ H x y v u Q I rx ry ⟨_, _, hx, hy, q⟩
  · cases hd; exact op_notin_str pins s σ H x y v u Q I rx ry ⟨_, _, hx, hy, q⟩
  · obtain ⟨p, p', e1, e2, s1, s2, rfl⟩ := inD_some hd
    exact op_inD hu pins s σ H x y v u Q I rx ry ⟨p, p', dp hx e1, dp hy (toPy_lst e2), s1, s2, q⟩
  · obtain ⟨p, p', e1, e2, s1, s2, rfl⟩ := inD_some hd
    exact op_inTD hu pins s σ H x y v u Q I rx ry ⟨p, p', dp hx e1, dp hy (toPy_tup e2), s1, s2, q⟩
  · obtain ⟨j, hd2, rfl⟩ := map_not_some hd
    obtain ⟨p, p', e1, e2, s1, s2, rfl⟩ := inD_some hd2
    exact op_notInD hu pins s σ H x y v u Q I rx ry ⟨p, p', dp hx e1, dp hy (toPy_lst e2), s1, s2, q⟩
  · obtain ⟨j, hd2, rfl⟩ := map_not_some hd
    obtain ⟨p, p', e1, e2, s1, s2, rfl⟩ := inD_some hd2
    exact op_notInTD hu pins s σ H x y v u Q I rx ry ⟨p, p', dp hx e1, dp hy (toPy_tup e2), s1, s2, q⟩
  · cases hd
    obtain rfl : x = .non := hx
    exact op_isN pins s σ H _ y v u Q I rx ry ⟨hy, q⟩
  · cases hd
  · rename_i hn hf
    cases hd
    have := non_ne hx hn hf
    exact op_isN pins s σ H x y v u Q I rx ry ⟨hy, by rw [decide_eq_false this]; exact q⟩
  · cases hd
    obtain rfl : x = .non := hx
    exact op_notN pins s σ H _ y v u Q I rx ry ⟨hy, q⟩
  · cases hd
  · rename_i hn hf
    cases hd
    have := non_ne hx hn hf
    exact op_notN pins s σ H x y v u Q I rx ry ⟨hy, by rw [decide_eq_false this]; exact q⟩
  · cases hd
end
end Ev
end
section
set_option Elab.async false
set_option linter.all false
set_option maxRecDepth 100000
set_option maxHeartbeats 2000000
/-! Ev: subscripts, slices, built-in functions and methods by data. -/
namespace Ev
open PySem PySem.Spec PyProof.Rows L2

theorem atI_D {c : RC} {H : Hp} {ds : List D} {vs : List V} {i : Int} {d : D} (h : DnL c H ds vs) (e : atI ds i = some d) : ∃ v, atI vs i = some v ∧ Dn c H d v := by
  unfold atI at e ⊢
  rw [h.length] at e
  cases q : ixN vs.length i with
  | none => rw [q] at e; cases e
  | some j =>
    rw [q] at e
    obtain ⟨v, e1, e2⟩ := h.get (i := j) (d := d) e
    exact ⟨v, e1, e2⟩
def rIdx (g : RC) : R2 := fun x y H Q => ∃ ρ ω m dx dy d, MemR (g.at ρ ω) H m ∧ DnV (g.at ρ ω) H dx x ∧ DnV (g.at ρ ω) H dy y ∧ idxD dx dy = some d ∧ Fin g ρ ω H m d Q
section
variable {X : Cx} {g : RC}
theorem ix_all (hK : X.K = g.K) (hu : X.A.units + 65 < cLine) : IxR X (rIdx g) := by
  intro value slice pins s σ H x y v u Q I rx ry ⟨ρ, ω, m, dx, dy, d, hm, hx, hy, hd, q⟩ hs
  unfold idxD at hd
  split at hd
  · obtain ⟨a, vs, rfl, _, ra, la⟩ := hx
    obtain ⟨w, e1, e2⟩ := atI_D la hd
    exact ix_tup value slice pins s σ H _ y v u Q I rx ry ⟨a, vs, _, w, rfl, hy, SqT.of ra, e1, q.ret hm e2⟩ hs
  · obtain ⟨a, vs, rfl, ra, la⟩ := hx
    obtain ⟨w, e1, e2⟩ := atI_D la hd
    exact ix_list value slice pins s σ H _ y v u Q I rx ry ⟨a, vs, _, w, rfl, hy, SqL.of ra, e1, q.ret hm e2⟩ hs
  · split at hd
    · rename_i hl
      obtain ⟨c, e1, rfl⟩ := Option.map_eq_some_iff.mp hd
      exact ix_str value slice pins s σ H x y v u Q I rx ry ⟨_, _, c, hx, hy, by rw [← line_eq]; exact hl, e1, q.ret hm rfl⟩ hs
    · cases hd
  · obtain ⟨k, e1, e2⟩ := Option.bind_eq_some_iff.mp hd
    obtain ⟨a, o, rfl, hg, ho⟩ := dgetK hx hy e1
    obtain rfl : v = Value.ref a := rx
    rcases ho with ⟨h1, _⟩ | ⟨d', w, h1, rfl, h3⟩
    · rw [h1] at e2; cases e2
    · rw [h1] at e2; cases e2
      exact tail_any (dict_typeIs I hg) PySem.F.slot_dict_getitem.lookup (d_getItem (by omega) I hg ry fun w' s3 I3 rw' => ⟨w, H, I3, rw', q.ret hm h3⟩) hs
  · obtain ⟨k, e1, e2⟩ := Option.bind_eq_some_iff.mp hd
    obtain ⟨a, o, rfl, hg, ho⟩ := dgetT hx hy e1
    obtain rfl : v = Value.ref a := rx
    rcases ho with ⟨h1, _⟩ | ⟨d', w, h1, rfl, h3⟩
    · rw [h1] at e2; cases e2
    · rw [h1] at e2; cases e2
      exact tail_any (dict_typeIs I hg) PySem.F.slot_dict_getitem.lookup (d_getItem (by omega) I hg ry fun w' s3 I3 rw' => ⟨w, H, I3, rw', q.ret hm h3⟩) hs
  · cases hd
/-! ### slices -/
theorem cut_D {c : RC} {H : Hp} {ds : List D} {vs : List V} (h : DnL c H ds vs) (lo hi : Option Int) : DnL c H (cutD ds lo hi) (cutV vs lo hi) := by
  unfold cutD cutV
  rw [h.length]
  exact (h.drop _).take _
def rSli (g : RC) : V → Option Int → Option Int → Hp → VK → Prop := fun x lo hi H Q => ∃ ρ ω m dx d, MemR (g.at ρ ω) H m ∧ DnV (g.at ρ ω) H dx x ∧
  sliK dx lo hi = some d ∧ Fin g ρ ω H m d Q
theorem sl_all (hK : X.K = g.K) : L2.SlR X (rSli g) := by
  intro pins s σ H x v vl vu lo hi sl Q I rx hs pl pu ⟨ρ, ω, m, dx, d, hm, hx, hd, q⟩
  unfold sliK at hd
  split at hd
  · cases hd
    obtain ⟨a, vs, rfl, ka, ra, la⟩ := hx
    refine sl_tupA pins s σ H _ v vl vu lo hi sl Q I rx hs pl pu ⟨a, vs, rfl, SqT.of ra, fun ⟨e1, e2⟩ => ?_, fun _ p hp => q.tup hm hp (cut_D la lo hi)⟩
    have z := cut_D la lo hi
    have e : cutV vs lo hi = vs := by unfold cutV; rw [e1, e2]; simp
    rw [e] at z
    exact q.ret hm ⟨a, vs, rfl, ka, ra, z⟩
  · cases hd
    obtain ⟨a, vs, rfl, ra, la⟩ := hx
    exact sl_list pins s σ H _ v vl vu lo hi sl Q I rx hs pl pu ⟨a, vs, rfl, SqL.of ra, fun p hp => q.lst hm hp (cut_D la lo hi)⟩
  · split at hd
    · rename_i hl
      cases hd
      exact sl_str pins s σ H x v vl vu lo hi sl Q I rx hs pl pu ⟨_, hx, by rw [← line_eq]; exact hl, q.ret hm rfl⟩
    · cases hd
  · cases hd
/-! ### built-in functions -/
def rBlt (g : RC) (b : Blt) : List V → Hp → VK → Prop := fun xs H Q => ∃ ρ ω m ds d, MemR (g.at ρ ω) H m ∧ Paired (fun d v => DnV (g.at ρ ω) H d v) ds xs ∧ bltD b ds = some d ∧ Fin g ρ ω H m d Q
def bltV : Blt → Value
  | .len => .builtin "len" | .tuple => .type "tuple" | .list => .type "list" | .abs => .builtin "abs" | .int => .type "int" | .max => .builtin "max" | .min => .builtin "min"
  | .all => .builtin "all" | .any => .builtin "any" | .sorted => .builtin "sorted" | .sum => .builtin "sum" | .repr => .builtin "repr" | .str => .type "str" | .dict => .type "dict"
def bltN : Blt → Str
  | .len => "len" | .tuple => "tuple" | .list => "list" | .abs => "abs" | .int => "int" | .max => "max" | .min => "min"
  | .all => "all" | .any => "any" | .sorted => "sorted" | .sum => "sum" | .repr => "repr" | .str => "str" | .dict => "dict"
theorem allBools_V {c : RC} {H : Hp} : ∀ {ds : List D} {vs : List V} {bs : List Bool}, DnL c H ds vs → allBools ds = some bs → vs = bs.map V.bl
  | [], [], _, _, e => by cases e; rfl
  | .bl b :: ds, v :: vs, bs, ⟨h, t⟩, e => by
    unfold allBools at e
    obtain ⟨bs', e1, rfl⟩ := Option.map_eq_some_iff.mp e
    rw [allBools_V t e1, show v = V.bl b from h]; rfl
  | [], _ :: _, _, h, _ => h.elim
  | _ :: _, [], _, h, _ => h.elim
theorem allStrs_V {c : RC} {H : Hp} : ∀ {ds : List D} {vs : List V} {bs : List Str}, DnL c H ds vs → allStrs ds = some bs → vs = bs.map V.str
  | [], [], _, _, e => by cases e; rfl
  | .str b :: ds, v :: vs, bs, ⟨h, t⟩, e => by
    unfold allStrs at e
    obtain ⟨bs', e1, rfl⟩ := Option.map_eq_some_iff.mp e
    rw [allStrs_V t e1, show v = V.str b from h]; rfl
  | [], _ :: _, _, h, _ => h.elim
  | _ :: _, [], _, h, _ => h.elim
theorem one_of {α β : Type} {R : α → β → Prop} {a : α} {xs : List β} (h : Paired R [a] xs) : ∃ x, xs = [x] ∧ R a x := by
  cases h with
  | cons r t => cases t; exact ⟨_, rfl, r⟩
theorem two_of {α β : Type} {R : α → β → Prop} {a b : α} {xs : List β} (h : Paired R [a, b] xs) : ∃ x y, xs = [x, y] ∧ R a x ∧ R b y := by
  cases h with
  | cons r t =>
    obtain ⟨y, rfl, q⟩ := one_of t
    exact ⟨_, y, rfl, r, q⟩
mutual
theorem toPy_noDict : ∀ (d : D) (p : PyData), toPy d = some p → p.hasDict = false
  | .non, p, e => by cases e; rfl
  | .bl _, p, e => by cases e; rfl
  | .int _, p, e => by cases e; rfl
  | .str _, p, e => by cases e; rfl
  | .tup ds, p, e => by
    unfold toPy at e
    obtain ⟨xs, e1, rfl⟩ := Option.map_eq_some_iff.mp e
    exact toPys_noDict ds xs e1
  | .lst ds, p, e => by
    unfold toPy at e
    obtain ⟨xs, e1, rfl⟩ := Option.map_eq_some_iff.mp e
    exact toPys_noDict ds xs e1
  | .frz _, _, e => nomatch e
  | .dK _, _, e => nomatch e
  | .dT _, _, e => nomatch e
  | .ins _ _, _, e => nomatch e
  | .exc _ _, _, e => nomatch e
  | .fn _, _, e => nomatch e
  | .loc _, _, e => nomatch e
theorem toPys_noDict : ∀ (ds : List D) (ps : List PyData), toPys ds = some ps → PyData.hasDictAll ps = false
  | [], ps, e => by cases e; rfl
  | d :: ds, ps, e => by
    unfold toPys at e
    cases q1 : toPy d with
    | none => rw [q1] at e; cases e
    | some x =>
      cases q2 : toPys ds with
      | none => rw [q1, q2] at e; cases e
      | some xs =>
        rw [q1, q2] at e; cases e
        simp only [PyData.hasDictAll, toPy_noDict d x q1, toPys_noDict ds xs q2, Bool.or_self]
end
/-- repr of data -/
theorem call_reprD (hg : X.A.guards = some []) (hu : X.A.units + 66 < cLine) : CallR X (.builtin "repr") (fun xs H Q => ∃ x d, xs = [x] ∧ Dp X.K H x d ∧ d.hasDict = false ∧ d.showable = true ∧ d.depth < 64 ∧ d.shown.length ≤ sizeLine ∧ Q (.str d.shown) H) := by
  intro pins s σ H xs us Q I r h
  obtain ⟨x, d, rfl, hd, hn, hs, h64, hz, q⟩ := h
  obtain ⟨u, rfl, ru⟩ := vals1 r
  obtain ⟨as, hr⟩ := Dp.reads I d x u hd ru
  cases hr with
  | none => exact PySem.P.repr_of_none ⟨.str _, H, I.tok _, ⟨_, rfl⟩, q⟩
  | bool b => exact PySem.P.repr_of_bool ⟨.str _, H, I.tok _, ⟨_, rfl⟩, q⟩
  | int i t => exact PySem.P.repr_of_int (by simpa [PyData.showable] using hs) ⟨.str _, H, I.tok _, ⟨_, rfl⟩, q⟩
  | str y t => exact PySem.P.repr_of_str ⟨.str _, H, I.tok _, ⟨_, rfl⟩, q⟩ hz
  | list h1 h2 h3 h4 => exact repr_of_reads' (.list h1 h2 h3 h4) hs (by rw [hn]; exact fun z => nomatch z) hg (by omega) (fun _ _ e => e) (fun h' t tk k => ⟨.str _, H, I.kept k, ⟨_, rfl⟩, q⟩) hz
  | tuple h1 h2 h3 h4 => exact repr_of_reads' (.tuple h1 h2 h3 h4) hs (by rw [hn]; exact fun z => nomatch z) hg (by omega) (fun _ _ e => e) (fun h' t tk k => ⟨.str _, H, I.kept k, ⟨_, rfl⟩, q⟩) hz
  | dict h1 h2 h3 h4 h5 => exact absurd hn (by simp [PyData.hasDict])
theorem call_blt (hK : X.K = g.K) (hc : X.calm = true) (b : Blt) (hg : b = .repr → X.A.guards = some []) (hu : X.A.units + 66 < cLine) : CallR X (bltV b) (rBlt g b) := by
  intro pins s σ H xs us Q I r ⟨ρ, ω, m, ds, d, hm, hp, hd, q⟩
  unfold bltD at hd
  split at hd
  · split at hd
    · rename_i hl
      cases hd
      obtain ⟨x, rfl, hx⟩ := one_of hp
      exact call_len pins s σ H _ us Q I r ⟨x, _, rfl, by rw [show x = V.str _ from hx]; exact ⟨by rw [← line_eq]; exact hl, rfl⟩, q.ret hm rfl⟩
    · cases hd
  · cases hd
    obtain ⟨x, rfl, hx⟩ := one_of hp
    obtain ⟨a, vs, rfl, ka, ra, la⟩ := hx
    exact call_len pins s σ H _ us Q I r ⟨_, _, rfl, .inr ⟨vs, SqT.of ra, rfl⟩, by rw [← la.length]; exact q.ret hm rfl⟩
  · cases hd
    obtain ⟨x, rfl, hx⟩ := one_of hp
    obtain ⟨a, vs, rfl, ra, la⟩ := hx
    exact call_len pins s σ H _ us Q I r ⟨_, _, rfl, .inl ⟨vs, SqL.of ra, rfl⟩, by rw [← la.length]; exact q.ret hm rfl⟩
  · cases hd
    obtain ⟨x, rfl, hx⟩ := one_of hp
    obtain ⟨a, vs, rfl, ra, la⟩ := hx
    refine call_len pins s σ H _ us Q I r ⟨_, _, rfl, .inl ⟨vs, ?_, rfl⟩, by rw [← la.length]; exact q.ret hm rfl⟩
    rcases ra with ⟨_, ra⟩ | ra
    · exact .inl ra
    · rw [hK]; exact .inr ra
  · cases hd
    obtain ⟨x, rfl, hx⟩ := one_of hp
    obtain ⟨a, vs, rfl, ka, ra, la⟩ := hx
    exact call_tuple_of pins s σ H _ us Q I r ⟨a, vs, rfl, .inr ⟨SqT.of ra, q.ret hm ⟨a, vs, rfl, ka, ra, la⟩⟩⟩
  · cases hd
    obtain ⟨x, rfl, hx⟩ := one_of hp
    obtain ⟨a, vs, rfl, ra, la⟩ := hx
    exact call_tuple_of pins s σ H _ us Q I r ⟨a, vs, rfl, .inl ⟨SqL.of ra, fun l hl => q.tup hm hl la⟩⟩
  · cases hd
    obtain ⟨x, rfl, hx⟩ := one_of hp
    obtain ⟨a, vs, rfl, ka, ra, la⟩ := hx
    exact call_list_of pins s σ H _ us Q I r ⟨a, vs, rfl, .inr (SqT.of ra), fun l hl => q.lst hm hl la⟩
  · cases hd
    obtain ⟨x, rfl, hx⟩ := one_of hp
    obtain ⟨a, vs, rfl, ra, la⟩ := hx
    exact call_list_of pins s σ H _ us Q I r ⟨a, vs, rfl, .inl (SqL.of ra), fun l hl => q.lst hm hl la⟩
  · cases hd
    obtain ⟨x, rfl, hx⟩ := one_of hp
    exact call_abs pins s σ H _ us Q I r ⟨_, by rw [show x = V.int _ from hx], q.ret hm rfl⟩
  · cases hd
    obtain ⟨x, rfl, hx⟩ := one_of hp
    exact call_int1 pins s σ H _ us Q I r (.inl ⟨_, by rw [show x = V.int _ from hx], q.ret hm rfl⟩)
  · cases hd
    obtain ⟨x, rfl, hx⟩ := one_of hp
    exact call_int1 pins s σ H _ us Q I r (.inr ⟨_, by rw [show x = V.bl _ from hx], q.ret hm rfl⟩)
  · cases hd
    obtain ⟨x, y, rfl, hx, hy⟩ := two_of hp
    exact call_max2 hc pins s σ H _ us Q I r ⟨_, _, by rw [show x = V.int _ from hx, show y = V.int _ from hy], q.ret hm rfl⟩
  · cases hd
    obtain ⟨x, y, rfl, hx, hy⟩ := two_of hp
    exact call_min2 hc pins s σ H _ us Q I r ⟨_, _, by rw [show x = V.int _ from hx, show y = V.int _ from hy], q.ret hm rfl⟩
  · obtain ⟨bs, e1, rfl⟩ := Option.map_eq_some_iff.mp hd
    obtain ⟨x, rfl, hx⟩ := one_of hp
    obtain ⟨a, vs, rfl, ra, la⟩ := hx
    have := allBools_V la e1
    subst this
    exact cr_all hc pins s σ H _ us Q I r ⟨a, bs, rfl, SqL.of ra, q.ret hm rfl⟩
  · obtain ⟨bs, e1, rfl⟩ := Option.map_eq_some_iff.mp hd
    obtain ⟨x, rfl, hx⟩ := one_of hp
    obtain ⟨a, vs, rfl, ra, la⟩ := hx
    have := allBools_V la e1
    subst this
    exact cr_any hc pins s σ H _ us Q I r ⟨a, bs, rfl, SqL.of ra, q.ret hm rfl⟩
  · obtain ⟨p, e1, e2⟩ := Option.bind_eq_some_iff.mp hd
    split at e2
    · rename_i hcnd
      cases e2
      rw [Bool.and_eq_true, Bool.and_eq_true, decide_eq_true_eq, decide_eq_true_eq] at hcnd
      obtain ⟨x, rfl, hx⟩ := one_of hp
      exact call_reprD (hg rfl) hu pins s σ H _ us Q I r ⟨x, p, rfl, by rw [hK]; exact hx.dp e1, toPy_noDict _ _ e1, hcnd.1.1, hcnd.1.2, by rw [← line_eq]; exact hcnd.2, q.ret hm rfl⟩
    · cases e2
  · split at hd
    · rename_i hl
      cases hd
      obtain ⟨x, rfl, hx⟩ := one_of hp
      exact call_str_int pins s σ H _ us Q I r ⟨_, by rw [show x = V.int _ from hx], hl, q.ret hm rfl⟩
    · cases hd
  · cases hd
end
end Ev
end
section
set_option Elab.async false
set_option linter.all false
set_option maxRecDepth 100000
set_option maxHeartbeats 2000000
/-! Ev: each construct's reading by the evaluator. -/
namespace Ev
open PySem PySem.Spec PyProof.Rows L2

section
variable {X : Cx} {g : RC} {W : WX} {fe : FE}

abbrev RdE (g : RC) (f : Env → M D) (W : WX) : TE := rdM g Dn f W
abbrev RdW (g : RC) (f : Env → M D) (W : WX) : TE := rdM g DnW f W
abbrev RdA (g : RC) (f : Env → M (List D)) (W : WX) : TA := rdM g DnL f W
def DnWs (c : RC) (H : Hp) (ds : List D) (vs : List V) : Prop := Paired (fun d v => DnW c H d v) ds vs
abbrev RdAW (g : RC) (f : Env → M (List D)) (W : WX) : TA := rdM g DnWs f W

theorem rd_val {g : RC} {ρ ω : List Addr} {H : Hp} {env : Env} {σ : L2.St} {i : Nat} {d : D} (he : EnvR (g.at ρ ω) H env σ) (e : env[i]? = some (.val d)) : ∃ v, σ[i]? = some (some v) ∧ Dn (g.at ρ ω) H d v := by
  have hi : i < σ.length := he.len ▸ (List.getElem?_eq_some_iff.mp e).1
  obtain ⟨o, ho⟩ : ∃ o, σ[i]? = some o := ⟨_, List.getElem?_eq_getElem hi⟩
  obtain ⟨v, e1, h⟩ := he.at_ i _ _ e ho
  exact ⟨v, by rw [ho, e1], h⟩
theorem rd_own {g : RC} {ρ ω : List Addr} {H : Hp} {env : Env} {σ : L2.St} {i : Nat} {d : D} (he : EnvR (g.at ρ ω) H env σ) (e : env[i]? = some (.own d)) : ∃ a, σ[i]? = some (some (.ref a)) ∧ a ∈ ω ∧ OwR (g.at ρ ω) H a d := by
  have hi : i < σ.length := he.len ▸ (List.getElem?_eq_some_iff.mp e).1
  obtain ⟨o, ho⟩ : ∃ o, σ[i]? = some o := ⟨_, List.getElem?_eq_getElem hi⟩
  obtain ⟨v, e1, h, q⟩ := he.at_ i _ _ e ho
  exact ⟨v, by rw [ho, e1], h, q⟩
theorem snd_var {i : Nat} {e : Expr} (h : PE X e (tVar i)) : PE X e (RdE g (fun env => rd env i) W) := PE.imp h fun σ H Q ⟨ρ, ω, env, m, he, hm, hp⟩ => by
  dsimp only [rd] at hp
  cases q : env[i]? with
  | none => rw [q] at hp; exact hp.elim
  | some s =>
    rw [q] at hp
    cases s with
    | val d =>
      obtain ⟨v, e1, h⟩ := rd_val he q
      exact ⟨v, e1, PostG.ret (a := d) hp h hm⟩
    | _ => exact hp.elim
/-- a place that only looks -/
theorem snd_weak {c : E} {e : Expr} {f : Env → M D} (h : PE X e (RdE g f W)) (hv : ∀ i, c = .var i → PE X e (tVar i)) : PE X e (RdW g (fun env => weak c env (f env)) W) := by
  have gen : ∀ {σ : L2.St} {H : Hp} {Q : VK} {ρ ω : List Addr} {env : Env} {m : Mem}, EnvR (g.at ρ ω) H env σ → MemR (g.at ρ ω) H m → PostG DnW (g.at ρ ω) H (f env m) Q (fun cls d H' => W cls d σ H') → RdE g f W σ H Q :=
    fun {σ H Q ρ ω env m} he hm hp => ⟨ρ, ω, env, m, he, hm, by
      cases q : f env m with
      | ok d m' => rw [q] at hp; exact fun ρ' H' v x hd hm' => hp ρ' H' v x hd.weak hm'
      | exc C fs m' => rw [q] at hp; exact hp
      | bad => rw [q] at hp; exact hp⟩
  by_cases hc : ∃ i, c = .var i
  · obtain ⟨i, rfl⟩ := hc
    refine ⟨fun pins s σ H Q I ⟨ρ, ω, env, m, he, hm, hp⟩ => ?_⟩
    dsimp only [weak] at hp
    cases q : env[i]? with
    | none => rw [q] at hp; exact h.run pins s σ H Q I (gen he hm hp)
    | some sl =>
      rw [q] at hp
      cases sl with
      | own d =>
        obtain ⟨a, e1, ha, ho⟩ := rd_own he q
        exact (hv i rfl).run pins s σ H Q I ⟨_, e1, PostG.ret (a := d) hp (ho.weak (hm.dj a ha)) hm⟩
      | _ => exact h.run pins s σ H Q I (gen he hm hp)
  · refine PE.imp h fun σ H Q ⟨ρ, ω, env, m, he, hm, hp⟩ => ?_
    have e : weak c env (f env) = f env := by
      unfold weak
      cases c <;> first | rfl | exact absurd ⟨_, rfl⟩ hc
    dsimp only at hp
    rw [e] at hp
    exact gen he hm hp
theorem snd_con {e : Expr} {d : D} {v : V} (h : PE X e (tC v)) (hd : ∀ c H, Dn c H d v) : PE X e (RdE g (fun _ => ret d) W) := PE.imp h fun σ H Q ⟨ρ, ω, env, m, he, hm, hp⟩ => hp.ret (hd _ _) hm

/-- what d1, d2 leave to the rule -/
theorem d2_fin {g : RC} {ρ ω : List Addr} {H : Hp} {m : Mem} {dx dy : D} {x y : V} {k : D → D → Option D} {Q : VK} {Ex : XK} (hm : MemR (g.at ρ ω) H m) (hx : DnW (g.at ρ ω) H dx x) (hy : DnW (g.at ρ ω) H dy y)
    (h : PostG Dn (g.at ρ ω) H (d2 dx dy k m) Q Ex) : ∃ dx' dy' d, DnV (g.at ρ ω) H dx' x ∧ DnV (g.at ρ ω) H dy' y ∧ k dx' dy' = some d ∧ Fin g ρ ω H m d Q := by
  unfold d2 at h
  split at h
  · rename_i dx' dy' e1 e2
    cases q : k dx' dy' with
    | none => rw [q] at h; exact h.elim
    | some d => rw [q] at h; exact ⟨dx', dy', d, hx.deref hm e1, hy.deref hm e2, q, h⟩
  · exact h.elim
theorem d1_fin {g : RC} {ρ ω : List Addr} {H : Hp} {m : Mem} {dx : D} {x : V} {k : D → Option D} {Q : VK} {Ex : XK} (hm : MemR (g.at ρ ω) H m) (hx : DnW (g.at ρ ω) H dx x)
    (h : PostG Dn (g.at ρ ω) H (d1 dx k m) Q Ex) : ∃ dx' d, DnV (g.at ρ ω) H dx' x ∧ k dx' = some d ∧ Fin g ρ ω H m d Q := by
  unfold d1 at h
  split at h
  · rename_i dx' e1
    cases q : k dx' with
    | none => rw [q] at h; exact h.elim
    | some d => rw [q] at h; exact ⟨dx', d, hx.deref hm e1, q, h⟩
  · exact h.elim
variable {a b c e : Expr} {ca cb cc : E} {fa fb fc : Env → M D} {pos : Pos}
theorem snd_bin (hK : X.K = g.K) {o : BinK} (ha : PE X a (RdW g fa W)) (hb : PE X b (RdW g fb W)) :
    PE X (.BinOp a (opOf o) b pos) (RdE g (fun env => bnd (fa env) fun x => bnd (fb env) fun y => d2 x y (binD o)) W) :=
  PE.imp (pe_op (op_bin hK o) ha hb) fun σ H Q ⟨ρ, ω, env, m, he, hm, hp⟩ => ⟨ρ, ω, env, m, he, hm, hp.bind fun ρ1 H1 dx x m1 x1 hx hm1 hp1 =>
    ⟨ρ1, ω, env, m1, he.later hm x1, hm1, hp1.bind fun ρ2 H2 dy y m2 x2 hy hm2 hp2 => by
      obtain ⟨dx', dy', d, h1, h2, h3, h4⟩ := d2_fin hm2 (hx.mono x2) hy hp2
      exact ⟨ρ2, ω, m2, dx', dy', d, hm2, h1, h2, h3, h4⟩⟩⟩
theorem fin_bl {g : RC} {ρ ω : List Addr} {H : Hp} {m : Mem} {k : Bool} {Q : VK} (hm : MemR (g.at ρ ω) H m) (h : Fin g ρ ω H m (.bl k) Q) : Q (.bl k) H := h.ret hm rfl
theorem snd_cmp (hK : X.K = g.K) (hu : X.A.units + 65 < cLine) {o : CmpK} (ha : PE X a (RdW g fa W)) (hb : PE X b (RdW g fb W)) (hm : behindInMarks (cmpOf o) b = false) :
    PE X (.Compare a [cmpOf o] [b] pos) (RdE g (fun env => bnd (fa env) fun x => bnd (fb env) fun y => d2 x y fun x y => (cmpD o x y).map .bl) W) :=
  PE.imp (pe_cmpR (op_cmp hK hu o) ha hb hm) fun σ H Q ⟨ρ, ω, env, m, he, hm, hp⟩ => ⟨ρ, ω, env, m, he, hm, hp.bind fun ρ1 H1 dx x m1 x1 hx hm1 hp1 =>
    ⟨ρ1, ω, env, m1, he.later hm x1, hm1, hp1.bind fun ρ2 H2 dy y m2 x2 hy hm2 hp2 => by
      obtain ⟨dx', dy', d, h1, h2, h3, h4⟩ := d2_fin hm2 (hx.mono x2) hy hp2
      obtain ⟨k, e1, rfl⟩ := Option.map_eq_some_iff.mp h3
      exact ⟨ρ2, ω, m2, dx', dy', k, hm2, h1, h2, e1, fin_bl hm2 h4⟩⟩⟩
/-- a test by its value -/
def RdT (g : RC) (f : Env → M D) (W : WX) : TT := fun σ H Q => RdE g f W σ H fun v H' => ∃ k, v = .bl k ∧ Q k H'
theorem snd_cmpT (hK : X.K = g.K) (hu : X.A.units + 65 < cLine) {o : CmpK} (ha : PE X a (RdW g fa W)) (hb : PE X b (RdW g fb W)) (hm : behindInMarks (cmpOf o) b = false) :
    PT X (.Compare a [cmpOf o] [b] pos) (RdT g (fun env => bnd (fa env) fun x => bnd (fb env) fun y => d2 x y fun x y => (cmpD o x y).map .bl) W) :=
  PT.imp (pt_cmpR (op_cmp hK hu o) ha hb hm) fun σ H Q ⟨ρ, ω, env, m, he, hm, hp⟩ => ⟨ρ, ω, env, m, he, hm, hp.bind fun ρ1 H1 dx x m1 x1 hx hm1 hp1 =>
    ⟨ρ1, ω, env, m1, he.later hm x1, hm1, hp1.bind fun ρ2 H2 dy y m2 x2 hy hm2 hp2 => by
      obtain ⟨dx', dy', d, h1, h2, h3, h4⟩ := d2_fin hm2 (hx.mono x2) hy hp2
      obtain ⟨k, e1, rfl⟩ := Option.map_eq_some_iff.mp h3
      exact ⟨ρ2, ω, m2, dx', dy', k, hm2, h1, h2, e1, fin_bl hm2 h4⟩⟩⟩
theorem d2_bool {g : RC} {ρ ω : List Addr} {H : Hp} {m : Mem} {dx dy : D} {x y : V} {k : D → D → Option Bool} {f : Bool → M D} {Q : VK} {Ex : XK} (hm : MemR (g.at ρ ω) H m) (hx : DnW (g.at ρ ω) H dx x) (hy : DnW (g.at ρ ω) H dy y)
    (h : PostG Dn (g.at ρ ω) H ((d2 dx dy k m).bind f) Q Ex) : ∃ dx' dy' d, DnV (g.at ρ ω) H dx' x ∧ DnV (g.at ρ ω) H dy' y ∧ k dx' dy' = some d ∧ PostG Dn (g.at ρ ω) H (f d m) Q Ex := by
  unfold d2 at h
  split at h
  · rename_i dx' dy' e1 e2
    cases q : k dx' dy' with
    | none => rw [q] at h; exact h.elim
    | some d => rw [q] at h; exact ⟨dx', dy', d, hx.deref hm e1, hy.deref hm e2, q, h⟩
  · exact h.elim
theorem chain_rd {o o' : CmpK} {σ : L2.St} {H : Hp} {Q : VK} (h : RdE g (fun env => bnd (fa env) fun x => bnd (fb env) fun y => bnd (d2 x y (cmpD o)) fun k =>
      if k = true then bnd (fc env) fun z => d2 y z fun y z => (cmpD o' y z).map .bl else ret (.bl false)) W σ H Q) : tChain (rCmp g o) (rCmp g o') (RdW g fa W) (RdW g fb W) (RdW g fc W) σ H Q := by
  obtain ⟨ρ, ω, env, m, he, hm, hp⟩ := h
  refine ⟨ρ, ω, env, m, he, hm, hp.bind fun ρ1 H1 dx x m1 x1 hx hm1 hp1 => ⟨ρ1, ω, env, m1, he.later hm x1, hm1, hp1.bind fun ρ2 H2 dy y m2 x2 hy hm2 hp2 => ?_⟩⟩
  obtain ⟨dx', dy', k, h1, h2, h3, h4⟩ := d2_bool hm2 (hx.mono x2) hy hp2
  refine ⟨ρ2, ω, m2, dx', dy', k, hm2, h1, h2, h3, k, rfl, ?_⟩
  cases k with
  | false => exact iteF (h4.ret rfl hm2)
  | true =>
    refine iteT ⟨ρ2, ω, env, m2, (he.later hm x1).later hm1 x2, hm2, h4.bind fun ρ3 H3 dz z m3 x3 hz hm3 hp3 => ?_⟩
    obtain ⟨dy2, dz2, d, q1, q2, q3, q4⟩ := d2_fin hm3 (hy.mono x3) hz hp3
    obtain ⟨k, e1, rfl⟩ := Option.map_eq_some_iff.mp q3
    exact ⟨ρ3, ω, m3, dy2, dz2, k, hm3, q1, q2, e1, fin_bl hm3 q4⟩
theorem snd_chain (hK : X.K = g.K) (hu : X.A.units + 65 < cLine) {o o' : CmpK} (ha : PE X a (RdW g fa W)) (hb : PE X b (RdW g fb W)) (hc : PE X c (RdW g fc W)) (hm : lastMarks [cmpOf o, cmpOf o'] [b, c] = false) :
    PE X (.Compare a [cmpOf o, cmpOf o'] [b, c] pos) (RdE g (fun env => bnd (fa env) fun x => bnd (fb env) fun y => bnd (d2 x y (cmpD o)) fun k =>
      if k = true then bnd (fc env) fun z => d2 y z fun y z => (cmpD o' y z).map .bl else ret (.bl false)) W) :=
  PE.imp (pe_chain (op_cmp hK hu o) (op_cmp hK hu o') ha hb hc hm) fun σ H Q h => chain_rd h
theorem snd_chainT (hK : X.K = g.K) (hu : X.A.units + 65 < cLine) {o o' : CmpK} (ha : PE X a (RdW g fa W)) (hb : PE X b (RdW g fb W)) (hc : PE X c (RdW g fc W)) (hm : lastMarks [cmpOf o, cmpOf o'] [b, c] = false) :
    PT X (.Compare a [cmpOf o, cmpOf o'] [b, c] pos) (RdT g (fun env => bnd (fa env) fun x => bnd (fb env) fun y => bnd (d2 x y (cmpD o)) fun k =>
      if k = true then bnd (fc env) fun z => d2 y z fun y z => (cmpD o' y z).map .bl else ret (.bl false)) W) :=
  PT.imp (pt_chain (op_cmp hK hu o) (op_cmp hK hu o') ha hb hc hm) fun σ H Q h => chain_rd h
/-! ### neg, not, and, or, if -/
theorem snd_neg (ha : PE X a (RdE g fa W)) : PE X (.UnaryOp .USub a pos) (RdE g (fun env => bnd (fa env) fun x => match x with | .int i => ret (.int (-i)) | _ => stuck) W) :=
  PE.imp (pe_un un_neg ha) fun σ H Q ⟨ρ, ω, env, m, he, hm, hp⟩ => ⟨ρ, ω, env, m, he, hm, hp.bind fun ρ1 H1 dx x m1 x1 hx hm1 hp1 => by
    cases dx with
    | int i => exact ⟨i, hx, hp1.ret rfl hm1⟩
    | _ => exact hp1.elim⟩
theorem snd_not (ha : PE X a (RdE g fa W)) : PE X (.UnaryOp .Not a pos) (RdE g (fun env => bnd (fa env) fun x => match x with | .bl b => ret (.bl (!b)) | _ => stuck) W) :=
  PE.imp (pe_not ha) fun σ H Q ⟨ρ, ω, env, m, he, hm, hp⟩ => ⟨ρ, ω, env, m, he, hm, hp.bind fun ρ1 H1 dx x m1 x1 hx hm1 hp1 => by
    cases dx with
    | bl i => exact ⟨i, hx, hp1.ret rfl hm1⟩
    | _ => exact hp1.elim⟩
theorem snd_notT (ha : PT X a (RdT g fa W)) : PT X (.UnaryOp .Not a pos) (RdT g (fun env => bnd (fa env) fun x => match x with | .bl b => ret (.bl (!b)) | _ => stuck) W) :=
  PT.imp (pt_not ha) fun σ H Q ⟨ρ, ω, env, m, he, hm, hp⟩ => ⟨ρ, ω, env, m, he, hm, hp.bind fun ρ1 H1 dx x m1 x1 hx hm1 hp1 => by
    cases dx with
    | bl i =>
      obtain ⟨k, e, q⟩ := hp1.ret (b := V.bl (!i)) rfl hm1
      cases e
      exact ⟨i, hx, q⟩
    | _ => exact hp1.elim⟩
theorem snd_and {rest : List Expr} (ha : PE X a (RdE g fa W)) (hb : PE X (.BoolOp .And (b :: rest) pos) (RdE g fb W)) :
    PE X (.BoolOp .And (a :: b :: rest) pos) (RdE g (fun env => bnd (fa env) fun x => match x with | .bl true => fb env | .bl false => ret (.bl false) | _ => stuck) W) :=
  PE.imp (pe_and ha hb) fun σ H Q ⟨ρ, ω, env, m, he, hm, hp⟩ => ⟨ρ, ω, env, m, he, hm, hp.bind fun ρ1 H1 dx x m1 x1 hx hm1 hp1 => by
    cases dx with
    | bl i =>
      refine ⟨i, hx, ?_⟩
      cases i with
      | true => exact iteT ⟨ρ1, ω, env, m1, he.later hm x1, hm1, hp1⟩
      | false => exact iteF (hp1.ret rfl hm1)
    | _ => exact hp1.elim⟩
theorem snd_or {rest : List Expr} (ha : PE X a (RdE g fa W)) (hb : PE X (.BoolOp .Or (b :: rest) pos) (RdE g fb W)) :
    PE X (.BoolOp .Or (a :: b :: rest) pos) (RdE g (fun env => bnd (fa env) fun x => match x with | .bl false => fb env | .bl true => ret (.bl true) | _ => stuck) W) :=
  PE.imp (pe_or ha hb) fun σ H Q ⟨ρ, ω, env, m, he, hm, hp⟩ => ⟨ρ, ω, env, m, he, hm, hp.bind fun ρ1 H1 dx x m1 x1 hx hm1 hp1 => by
    cases dx with
    | bl i =>
      refine ⟨i, hx, ?_⟩
      cases i with
      | true => exact iteT (hp1.ret rfl hm1)
      | false => exact iteF ⟨ρ1, ω, env, m1, he.later hm x1, hm1, hp1⟩
    | _ => exact hp1.elim⟩
theorem snd_andT {rest : List Expr} (ha : PT X a (RdT g fa W)) (hb : PW X (.BoolOp .And (b :: rest) pos) (RdT g fb W)) :
    PW X (.BoolOp .And (a :: b :: rest) pos) (RdT g (fun env => bnd (fa env) fun x => match x with | .bl true => fb env | .bl false => ret (.bl false) | _ => stuck) W) :=
  PW.imp (pw_and ha hb) fun σ H Q ⟨ρ, ω, env, m, he, hm, hp⟩ => ⟨ρ, ω, env, m, he, hm, hp.bind fun ρ1 H1 dx x m1 x1 hx hm1 hp1 => by
    cases dx with
    | bl i =>
      refine ⟨i, hx, ?_⟩
      cases i with
      | true => exact iteT ⟨ρ1, ω, env, m1, he.later hm x1, hm1, hp1⟩
      | false =>
        obtain ⟨k, e, q⟩ := hp1.ret (b := V.bl false) rfl hm1
        cases e
        exact iteF q
    | _ => exact hp1.elim⟩
theorem snd_orT {rest : List Expr} (ha : PT X a (RdT g fa W)) (hb : PW X (.BoolOp .Or (b :: rest) pos) (RdT g fb W)) :
    PW X (.BoolOp .Or (a :: b :: rest) pos) (RdT g (fun env => bnd (fa env) fun x => match x with | .bl false => fb env | .bl true => ret (.bl true) | _ => stuck) W) :=
  PW.imp (pw_or ha hb) fun σ H Q ⟨ρ, ω, env, m, he, hm, hp⟩ => ⟨ρ, ω, env, m, he, hm, hp.bind fun ρ1 H1 dx x m1 x1 hx hm1 hp1 => by
    cases dx with
    | bl i =>
      refine ⟨i, hx, ?_⟩
      cases i with
      | true =>
        obtain ⟨k, e, q⟩ := hp1.ret (b := V.bl true) rfl hm1
        cases e
        exact iteT q
      | false => exact iteF ⟨ρ1, ω, env, m1, he.later hm x1, hm1, hp1⟩
    | _ => exact hp1.elim⟩
theorem snd_ife (hc : PT X c (RdT g fc W)) (ha : PE X a (RdE g fa W)) (hb : PE X b (RdE g fb W)) :
    PE X (.IfExp c a b pos) (RdE g (fun env => bnd (fc env) fun x => match x with | .bl true => fa env | .bl false => fb env | _ => stuck) W) :=
  PE.imp (pe_ifExp hc ha hb) fun σ H Q ⟨ρ, ω, env, m, he, hm, hp⟩ => ⟨ρ, ω, env, m, he, hm, hp.bind fun ρ1 H1 dx x m1 x1 hx hm1 hp1 => by
    cases dx with
    | bl i =>
      refine ⟨i, hx, ?_⟩
      cases i with
      | true => exact iteT ⟨ρ1, ω, env, m1, he.later hm x1, hm1, hp1⟩
      | false => exact iteF ⟨ρ1, ω, env, m1, he.later hm x1, hm1, hp1⟩
    | _ => exact hp1.elim⟩
theorem snd_valT (ha : PE X a (RdE g fa W)) (he : ∀ whole, isTrue a X.env whole = (do let v ← whole; standAt a.pos; holding [v] (truthy v))) : PT X a (RdT g fa W) := pt_val ha he
end
end Ev
end
section
set_option Elab.async false
set_option linter.all false
set_option maxRecDepth 100000
set_option maxHeartbeats 2000000
/-! Ev: lists of expressions, displays, subscripts, calls of built-ins. -/
namespace Ev
open PySem PySem.Spec PyProof.Rows L2

/-- a new list or dict that nothing else speaks of -/
def PostF (c : RC) (H : Hp) (r : Res D) (Q : VK) (Ex : XK) : Prop :=
  match r with
  | .ok d m => ∀ ρ' H' a, Xt c H ρ' H' → Fr0 H a → OwR ⟨c.K, c.mg, c.T, ρ', a :: c.ω, c.P⟩ H' a d → MemR ⟨c.K, c.mg, c.T, ρ', a :: c.ω, c.P⟩ H' m → Q (.ref a) H'
  | .exc C fs m => ∀ ρ' H' A d, Xt c H ρ' H' → ExR (c.r ρ') H' C fs A d → MemR (c.r ρ') H' m → Ex (.ref A) d H'
  | .bad => False
theorem PostF.after {c : RC} {H H1 : Hp} {ρ1 : List Addr} {r : Res D} {Q : VK} {Ex : XK} (x : Xt c H ρ1 H1) (h : PostF c H r Q Ex) : PostF (c.r ρ1) H1 r Q Ex := by
  cases r with
  | ok d m =>
    refine fun ρ' H' a y n ho hm => h ρ' H' a (x.trans y) (fr_of fun o q t => ?_) ho hm
    obtain ⟨o', e, t'⟩ := x.there a o q t
    exact fr_no n e t'
  | exc C fs m => exact fun ρ' H' A d y hr hm => h ρ' H' A d (x.trans y) hr hm
  | bad => exact h.elim
theorem PostF.bind {γ δ : Type} {S : Rel γ δ} {c : RC} {H : Hp} {r : Res γ} {f : γ → M D} {Q : VK} {Ex : XK} {Q1 : δ → Hp → Prop} (h : PostF c H (r.bind f) Q Ex)
    (k : ∀ ρ1 H1 a b m1, Xt c H ρ1 H1 → S (c.r ρ1) H1 a b → MemR (c.r ρ1) H1 m1 → PostF (c.r ρ1) H1 (f a m1) Q Ex → Q1 b H1) : PostG S c H r Q1 Ex := by
  cases r with
  | ok a m => exact fun ρ' H' b y hr hm => k ρ' H' a b m y hr hm (PostF.after y h)
  | exc C fs m => exact h
  | bad => exact h.elim
theorem OwR.less {c : RC} {H : Hp} {ω' : List Addr} (hs : ∀ a ∈ ω', a ∈ c.ω) {a : Addr} {d : D} (h : OwR c H a d) : OwR (c.w ω') H a d := by
  cases d with
  | lst ds => obtain ⟨vs, e, l⟩ := h; exact ⟨vs, e, DnL.less hs ds vs l⟩
  | dK kvs => obtain ⟨vs, e, l⟩ := h; exact ⟨vs, e, DnK.less hs kvs vs l⟩
  | dT kvs => obtain ⟨vs, e, l⟩ := h; exact ⟨vs, e, DnT.less hs kvs vs l⟩
  | _ => exact h.elim
theorem OwR.dn {c : RC} {H : Hp} {a : Addr} {d : D} (ok : c.ok a) (h : OwR c H a d) : Dn c H d (.ref a) := by
  cases d with
  | lst ds => obtain ⟨vs, e, l⟩ := h; exact ⟨a, vs, rfl, ok, e, l⟩
  | dK kvs => obtain ⟨vs, e, l⟩ := h; exact ⟨a, vs, rfl, ok, e, l⟩
  | dT kvs => obtain ⟨vs, e, l⟩ := h; exact ⟨a, vs, rfl, ok, e, l⟩
  | _ => exact h.elim
theorem PostF.weak {c : RC} {H : Hp} {r : Res D} {Q : VK} {Ex : XK} (hw : ∀ a ∈ c.ω, ∃ o, H a = some o ∧ ∀ ps, o ≠ .tbl ps) (h : PostG Dn c H r Q Ex) : PostF c H r Q Ex := by
  cases r with
  | ok d m =>
    refine fun ρ' H' a x n ho hm => h ρ' H' (.ref a) x (OwR.dn (c := c.r ρ') ⟨fun z => hm.dj a List.mem_cons_self z, fun z => ?_⟩ (OwR.less (c := ⟨c.K, c.mg, c.T, ρ', a :: c.ω, c.P⟩) (ω' := c.ω) (fun b hb => List.mem_cons_of_mem _ hb) ho)) (MemR.less (c := ⟨c.K, c.mg, c.T, ρ', a :: c.ω, c.P⟩) (ω' := c.ω) (fun b hb => List.mem_cons_of_mem _ hb) hm)
    obtain ⟨o, e, t⟩ := hw a z
    exact fr_no n e t
  | exc C fs m => exact h
  | bad => exact h
section
variable {X : Cx} {g : RC} {W : WX} {fe : FE} {a b c e : Expr} {es : List Expr} {fa fb fc f : Env → M D} {fs : Env → M (List D)} {pos : Pos}
def RdF (g : RC) (f : Env → M D) (W : WX) : TE := fun σ H Q => ∃ ρ ω env m, EnvR (g.at ρ ω) H env σ ∧ MemR (g.at ρ ω) H m ∧ PostF (g.at ρ ω) H (f env m) Q fun cls d H' => W cls d σ H'
theorem snd_fresh (h : PE X e (RdF g f W)) : PE X e (RdE g f W) := PE.imp h fun σ H Q ⟨ρ, ω, env, m, he, hm, hp⟩ => ⟨ρ, ω, env, m, he, hm, PostF.weak (c := g.at ρ ω) (H := H) (r := f env m) (fun a ha => hm.own a ha) hp⟩
theorem guardF {c : RC} {H : Hp} {k : Bool} {x : M D} {m : Mem} {Q : VK} {Ex : XK} (h : PostF c H (guardM k x m) Q Ex) : k = true ∧ PostF c H (x m) Q Ex := by
  unfold guardM at h
  cases k with
  | true => exact ⟨rfl, h⟩
  | false => exact h.elim
/-! ### lists of expressions -/
theorem snd_nil : PA X [] (RdA g (fun _ => ret []) W) := PA.imp pa_nil fun σ H Q ⟨ρ, ω, env, m, he, hm, hp⟩ => hp.ret (b := ([] : List V)) True.intro hm
theorem snd_cons (ha : PE X e (RdE g f W)) (hr : PA X es (RdA g fs W)) (hs : starEach (e :: es) X.env = (false, eval e X.env) :: starEach es X.env) :
    PA X (e :: es) (RdA g (fun env => bnd (f env) fun x => bnd (fs env) fun xs => ret (x :: xs)) W) :=
  PA.imp (pa_cons ha hr hs) fun σ H Q ⟨ρ, ω, env, m, he, hm, hp⟩ => ⟨ρ, ω, env, m, he, hm, hp.bind fun ρ1 H1 dx x m1 x1 hx hm1 hp1 =>
    ⟨ρ1, ω, env, m1, he.later hm x1, hm1, hp1.bind fun ρ2 H2 dy y m2 x2 hy hm2 hp2 => hp2.ret (b := x :: y) ⟨hx.mono x2, hy⟩ hm2⟩⟩
theorem DnWs.mono {c : RC} {H H' : Hp} {ρ' : List Addr} (x : Xt c H ρ' H') {ds : List D} {vs : List V} (h : DnWs c H ds vs) : DnWs (c.r ρ') H' ds vs := Paired.mapP h fun d v k => k.mono x
theorem snd_nilW : PA X [] (RdAW g (fun _ => ret []) W) := PA.imp pa_nil fun σ H Q ⟨ρ, ω, env, m, he, hm, hp⟩ => hp.ret (b := ([] : List V)) .nil hm
theorem snd_consW (ha : PE X e (RdW g f W)) (hr : PA X es (RdAW g fs W)) (hs : starEach (e :: es) X.env = (false, eval e X.env) :: starEach es X.env) :
    PA X (e :: es) (RdAW g (fun env => bnd (f env) fun x => bnd (fs env) fun xs => ret (x :: xs)) W) :=
  PA.imp (pa_cons ha hr hs) fun σ H Q ⟨ρ, ω, env, m, he, hm, hp⟩ => ⟨ρ, ω, env, m, he, hm, hp.bind fun ρ1 H1 dx x m1 x1 hx hm1 hp1 =>
    ⟨ρ1, ω, env, m1, he.later hm x1, hm1, hp1.bind fun ρ2 H2 dy y m2 x2 hy hm2 hp2 => hp2.ret (b := x :: y) (.cons (hx.mono x2) hy) hm2⟩⟩
/-! ### displays -/
theorem guardM_bind {α : Type} {R : Rel α V} {c : RC} {H : Hp} {k : Bool} {x : M α} {m : Mem} {Q : VK} {Ex : XK} (h : PostG R c H (guardM k x m) Q Ex) : k = true ∧ PostG R c H (x m) Q Ex := by
  unfold guardM at h
  cases k with
  | true => exact ⟨rfl, h⟩
  | false => exact h.elim
theorem snd_tup {x1} (h : PA X es (RdA g fs W)) : PE X (.Tuple es x1 pos) (RdE g (fun env => bnd (fs env) fun xs => guardM (decide (xs.length ≤ line)) (ret (.tup xs))) W) :=
  PE.imp (pe_tup h) fun σ H Q ⟨ρ, ω, env, m, he, hm, hp⟩ => ⟨ρ, ω, env, m, he, hm, hp.bind fun ρ1 H1 ds vs m1 x1 hl hm1 hp1 => by
    obtain ⟨k, hp1⟩ := guardM_bind hp1
    exact ⟨by rw [← hl.length, ← line_eq]; exact of_decide_eq_true k, fun p n => hp1.new n ⟨p, vs, rfl, hm1.ok_new n, upd_same, DnL.laid n hl⟩ hm1⟩⟩
theorem snd_lst (h : PA X es (RdA g fs W)) : PE X (.List es pos) (RdF g (fun env => bnd (fs env) fun xs => guardM (decide (xs.length ≤ line)) (ret (.lst xs))) W) :=
  PE.imp (pe_lst h) fun σ H Q ⟨ρ, ω, env, m, he, hm, hp⟩ => ⟨ρ, ω, env, m, he, hm, hp.bind fun ρ1 H1 ds vs m1 x1 hl hm1 hp1 => by
    obtain ⟨k, hp1⟩ := guardF hp1
    exact ⟨by rw [← hl.length, ← line_eq]; exact of_decide_eq_true k, fun p n => hp1 ρ1 _ p (Xt.laid n) (fr0_none n) ⟨vs, upd_same, DnL.laid (c := g.at ρ1 (p :: ω)) n (DnL.more (fr0_none n) ds vs hl)⟩ (hm1.hold n fun ps z => nomatch z)⟩⟩
/-! ### subscripts -/
theorem snd_idx (hK : X.K = g.K) (hu : X.A.units + 65 < cLine) (ha : PE X a (RdW g fa W)) (hb : PE X b (RdE g fb W)) (hs : PlainIx b) :
    PE X (.Subscript a b pos) (RdE g (fun env => bnd (fa env) fun x => bnd (fb env) fun y => d1 x fun x => idxD x y) W) :=
  PE.imp (pe_ix (ix_all hK hu) ha hb hs) fun σ H Q ⟨ρ, ω, env, m, he, hm, hp⟩ => ⟨ρ, ω, env, m, he, hm, hp.bind fun ρ1 H1 dx x m1 x1 hx hm1 hp1 =>
    ⟨ρ1, ω, env, m1, he.later hm x1, hm1, hp1.bind fun ρ2 H2 dy y m2 x2 hy hm2 hp2 => by
      obtain ⟨dx', d, h1, h2, h3⟩ := d1_fin hm2 (hx.mono x2) hp2
      exact ⟨ρ2, ω, m2, dx', dy, d, hm2, h1, hy.weak.see, h2, h3⟩⟩⟩
/-- a slice's end -/
def RdO (g : RC) (f : Env → M D) (W : WX) : TO := fun σ H Q => RdE g f W σ H fun v H' => (v = .non ∧ Q none H') ∨ ∃ i, v = .int i ∧ Q (some i) H'
def DnO : RC → Hp → D → Option Int → Prop := fun _ _ d o => endOf d = some o
theorem snd_none : PO X none (rdM g DnO (fun _ => ret .non) W) := ⟨fun pins s σ H Q I ⟨ρ, ω, env, m, he, hm, hp⟩ => po_none.run pins s σ H Q I (hp.ret (b := (none : Option Int)) rfl hm)⟩
theorem snd_some (h : PE X e (RdE g f W)) : PO X (some e) (rdM g DnO (fun env => bnd (f env) fun x => match x with | .int i => ret (.int i) | _ => stuck) W) :=
  ⟨fun pins s σ H Q I ⟨ρ, ω, env, m, he, hm, hp⟩ => (po_some h).run pins s σ H Q I ⟨ρ, ω, env, m, he, hm, hp.bind fun ρ1 H1 dx x m1 x1 hx hm1 hp1 => by
    cases dx with
    | int i => exact ⟨i, hx, hp1.ret (b := some i) rfl hm1⟩
    | _ => exact hp1.elim⟩⟩
theorem snd_sli (hK : X.K = g.K) {lo hi : Option Expr} {p2 : Pos} {fl fh : Env → M D} (ha : PE X a (RdW g fa W)) (hl : PO X lo (rdM g DnO fl W)) (hh : PO X hi (rdM g DnO fh W)) :
    PE X (.Subscript a (.Slice lo hi none p2) pos) (RdE g (fun env => bnd (fa env) fun x => bnd (fl env) fun l => bnd (fh env) fun h => d1 x fun x => sliD x l h) W) :=
  PE.imp (pe_slice (sl_all hK) ha hl hh) fun σ H Q ⟨ρ, ω, env, m, he, hm, hp⟩ => ⟨ρ, ω, env, m, he, hm, hp.bind fun ρ1 H1 dx x m1 x1 hx hm1 hp1 =>
    ⟨ρ1, ω, env, m1, he.later hm x1, hm1, hp1.bind fun ρ2 H2 dl l m2 x2 hy hm2 hp2 =>
      ⟨ρ2, ω, env, m2, (he.later hm x1).later hm1 x2, hm2, hp2.bind fun ρ3 H3 dh h m3 x3 hz hm3 hp3 => by
        obtain ⟨dx', d, h1, h2, h3⟩ := d1_fin hm3 ((hx.mono x2).mono x3) hp3
        unfold sliD at h2
        rw [show endOf dl = some l from hy, show endOf dh = some h from hz] at h2
        exact ⟨ρ3, ω, m3, dx', d, hm3, h1, h2, h3⟩⟩⟩⟩
/-! ### calls of built-in functions -/
theorem derefs_V {c : RC} {H : Hp} {m : Mem} (hm : MemR c H m) : ∀ {ds ds' : List D} {vs : List V}, DnWs c H ds vs → derefs m ds = some ds' → Paired (fun d v => DnV c H d v) ds' vs
  | _, _, _, .nil, e => by cases e; exact .nil
  | _, _, _, .cons (a := d) (l₁ := ds) h t, e => by
    unfold derefs at e
    cases q1 : deref m d with
    | none => rw [q1] at e; cases e
    | some x =>
      cases q2 : derefs m ds with
      | none => rw [q1, q2] at e; cases e
      | some xs => rw [q1, q2] at e; cases e; exact .cons (h.deref hm q1) (derefs_V hm t q2)
theorem dn_fin {g : RC} {ρ ω : List Addr} {H : Hp} {m : Mem} {ds : List D} {vs : List V} {k : List D → Option D} {Q : VK} {Ex : XK} (hm : MemR (g.at ρ ω) H m) (hx : DnWs (g.at ρ ω) H ds vs)
    (h : PostG Dn (g.at ρ ω) H (dn ds k m) Q Ex) : ∃ ds' d, Paired (fun d v => DnV (g.at ρ ω) H d v) ds' vs ∧ k ds' = some d ∧ Fin g ρ ω H m d Q := by
  unfold dn at h
  split at h
  · rename_i ds' e1
    cases q : k ds' with
    | none => rw [q] at h; exact h.elim
    | some d => rw [q] at h; exact ⟨ds', d, derefs_V hm hx e1, q, h⟩
  · exact h.elim
theorem blt_rd {t : Blt} {σ : L2.St} {H : Hp} {Q : VK} (h : RdE g (fun env => bnd (fs env) fun xs => dn xs (bltD t)) W σ H Q) : RdAW g fs W σ H fun vs H1 => rBlt g t vs H1 Q := by
  obtain ⟨ρ, ω, env, m, he, hm, hp⟩ := h
  refine ⟨ρ, ω, env, m, he, hm, hp.bind fun ρ1 H1 ds vs m1 x1 hl hm1 hp1 => ?_⟩
  obtain ⟨ds', d, h1, h2, h3⟩ := dn_fin hm1 hl hp1
  exact ⟨ρ1, ω, m1, ds', d, hm1, h1, h2, h3⟩
def isTy : Blt → Bool
  | .tuple => true | .list => true | .int => true | .str => true | .dict => true | _ => false
theorem boot_blt (t : Blt) : bootBuiltins (bltN t) = some (bltV t) := by
  cases t <;> decide +kernel
theorem nm_blt (t : Blt) : bltN t ≠ "__name__" ∧ (bltN t == ("__debug__" : Str)) = false := by
  cases t <;> exact ⟨by decide +kernel, by decide +kernel⟩
theorem snd_blt (hK : X.K = g.K) (hc : X.calm = true) {t : Blt} (hgd : t = .repr → X.A.guards = some []) (hu : X.A.units + 66 < cLine) {p : Pos} (hg : Gl X (bltN t)) (hm : X.mg (bltN t) = none) (ha : PA X (e :: es) (RdAW g fs W))
    (he : starEach (e :: es) X.env = (false, eval e X.env) :: starEach es X.env) (hpl : (backTo pos (starEach es X.env)).any (·.1) = false) :
    PE X (.Call (.Name (bltN t) p) (e :: es) [] pos) (RdE g (fun env => bnd (fs env) fun xs => dn xs (bltD t)) W) := by
  have hr := call_blt (X := X) (g := g) hK hc t hgd hu
  have hv := boot_blt t
  obtain ⟨n1, n2⟩ := nm_blt t
  cases t with
  | tuple => exact PE.imp (pe_callTy (T := "tuple") hr hg hm hv ha n1 n2 he hpl) fun σ H Q h => blt_rd h
  | list => exact PE.imp (pe_callTy (T := "list") hr hg hm hv ha n1 n2 he hpl) fun σ H Q h => blt_rd h
  | int => exact PE.imp (pe_callTy (T := "int") hr hg hm hv ha n1 n2 he hpl) fun σ H Q h => blt_rd h
  | str => exact PE.imp (pe_callTy (T := "str") hr hg hm hv ha n1 n2 he hpl) fun σ H Q h => blt_rd h
  | dict => exact PE.imp (pe_callTy (T := "dict") hr hg hm hv ha n1 n2 he hpl) fun σ H Q h => blt_rd h
  | len => exact PE.imp (pe_callB (id := "len") hr hg hm hv ha n1 n2 he hpl) fun σ H Q h => blt_rd h
  | abs => exact PE.imp (pe_callB (id := "abs") hr hg hm hv ha n1 n2 he hpl) fun σ H Q h => blt_rd h
  | max => exact PE.imp (pe_callB (id := "max") hr hg hm hv ha n1 n2 he hpl) fun σ H Q h => blt_rd h
  | min => exact PE.imp (pe_callB (id := "min") hr hg hm hv ha n1 n2 he hpl) fun σ H Q h => blt_rd h
  | all => exact PE.imp (pe_callB (id := "all") hr hg hm hv ha n1 n2 he hpl) fun σ H Q h => blt_rd h
  | any => exact PE.imp (pe_callB (id := "any") hr hg hm hv ha n1 n2 he hpl) fun σ H Q h => blt_rd h
  | sorted => exact PE.imp (pe_callB (id := "sorted") hr hg hm hv ha n1 n2 he hpl) fun σ H Q h => blt_rd h
  | sum => exact PE.imp (pe_callB (id := "sum") hr hg hm hv ha n1 n2 he hpl) fun σ H Q h => blt_rd h
  | repr => exact PE.imp (pe_callB (id := "repr") hr hg hm hv ha n1 n2 he hpl) fun σ H Q h => blt_rd h
end
end Ev
end
section
set_option Elab.async false
set_option linter.all false
set_option maxRecDepth 100000
set_option maxHeartbeats 2000000
/-! Ev: what is walked, targets. -/
namespace Ev
open PySem PySem.Spec PyProof.Rows L2

/-! ### what is walked -/
inductive Itm where
  | one (d : D) (v : V) | two (d e : D) (v w : V)
def Itm.D : Itm → Ev.D
  | .one d _ => d
  | .two d e _ _ => .tup [d, e]
def Itm.ok (c : RC) (H : Hp) : Itm → Prop
  | .one d v => Dn c H d v
  | .two d e v w => Dn c H d v ∧ Dn c H e w
def Itm.at (H H' : Hp) : Itm → V → Prop
  | .one _ v, x => x = v ∧ H' = H
  | .two _ _ v w, x => ∃ T, x = .ref T ∧ H T = none ∧ H' = upd H T (.tup [v, w])
/-- no list is too long -/
def HLen (H : Hp) : Prop := (∀ a xs, Rd H a (.lst xs) → xs.length ≤ sizeLine) ∧ ∀ a xs, Rd H a (.tup xs) → xs.length ≤ sizeLine
theorem hlen_of {P : Program} {w : World} {H : Hp} {h : Heap} (ok : HOk P w H h) : HLen H := ⟨fun a xs e => let x : ObjOk P w H h a (.lst xs) := e.ok ok; x.1, fun a xs e => let x : ObjOk P w H h a (.tup xs) := e.ok ok; x.1⟩
/-- what may change while it is walked -/
def Xi (w : Bool) (ρ ω : List Addr) (a : Addr) : Prop := a ∈ ρ ∨ (w = false ∧ a ∈ ω)
def Kept (ξ : Addr → Prop) (H H' : Hp) : Prop := ∀ a o, H a = some o → ¬ ξ a → (∀ ps, o ≠ .tbl ps) → H' a = some o
structure Yld (ξ : Addr → Prop) (H : Hp) (J : L2.It) (its : List Itm) : Prop where
  go : ∀ i H', Kept ξ H H' → i < its.length → J.go i H'
  stop : ∀ H', Kept ξ H H' → J.stop its.length H'
  yld : ∀ i H' x H'', Kept ξ H H' → J.yld i H' x H'' → ∀ it, its[i]? = some it → it.at H' H'' x
  len : HLen H → its.length ≤ sizeLine
def PostI (w : Bool) (g : RC) (ρ ω : List Addr) (H : Hp) (r : Res (List D)) (R : L2.It → Hp → Prop) (Ex : XK) : Prop :=
  match r with
  | .ok ds m => ∀ ρ' H' J its, Xt (g.at ρ ω) H ρ' H' → ds = its.map Itm.D → (∀ it ∈ its, it.ok (g.at ρ' ω) H') → Yld (Xi w ρ' ω) H' J its → MemR (g.at ρ' ω) H' m → R J H'
  | .exc C fs m => ∀ ρ' H' A d, Xt (g.at ρ ω) H ρ' H' → ExR (g.at ρ' ω) H' C fs A d → MemR (g.at ρ' ω) H' m → Ex (.ref A) d H'
  | .bad => False
def RdI (w : Bool) (g : RC) (f : Env → M (List D)) (W : WX) : TI := fun σ H R =>
  ∃ ρ ω env m, EnvR (g.at ρ ω) H env σ ∧ MemR (g.at ρ ω) H m ∧ PostI w g ρ ω H (f env m) R fun cls d H' => W cls d σ H'
theorem PI.imp {X : Cx} {tg e : Expr} {t t' : TI} (h : PI X tg e t) (k : ∀ σ H Q, t' σ H Q → t σ H Q) : PI X tg e t' := ⟨fun pins s σ H Q I hw => h.run pins s σ H Q I (k σ H Q hw)⟩
theorem PostI.after {w : Bool} {g : RC} {ρ ω ρ1 : List Addr} {H H1 : Hp} {r : Res (List D)} {R : L2.It → Hp → Prop} {Ex : XK} (x : Xt (g.at ρ ω) H ρ1 H1) (h : PostI w g ρ ω H r R Ex) : PostI w g ρ1 ω H1 r R Ex := by
  cases r with
  | ok a m => exact fun ρ' H' J its y => h ρ' H' J its (x.trans y)
  | exc C fs m => exact fun ρ' H' A d y => h ρ' H' A d (x.trans y)
  | bad => exact h.elim
theorem PostI.bind {γ δ : Type} {w : Bool} {g : RC} {ρ ω : List Addr} {H : Hp} {S : Rel γ δ} {r : Res γ} {f : γ → M (List D)} {R : L2.It → Hp → Prop} {Ex : XK} {Q1 : δ → Hp → Prop} (h : PostI w g ρ ω H (r.bind f) R Ex)
    (k : ∀ ρ1 H1 a b m1, Xt (g.at ρ ω) H ρ1 H1 → S (g.at ρ1 ω) H1 a b → MemR (g.at ρ1 ω) H1 m1 → PostI w g ρ1 ω H1 (f a m1) R Ex → Q1 b H1) : PostG S (g.at ρ ω) H r Q1 Ex := by
  cases r with
  | ok a m => exact fun ρ' H' b y hr hm => k ρ' H' a b m y hr hm (PostI.after y h)
  | exc C fs m => exact h
  | bad => exact h.elim
theorem PostI.ret {w : Bool} {g : RC} {ρ ω : List Addr} {H : Hp} {ds : List D} {m : Mem} {R : L2.It → Hp → Prop} {Ex : XK} {J : L2.It} {its : List Itm} (h : PostI w g ρ ω H (.ok ds m) R Ex) (e : ds = its.map Itm.D)
    (ho : ∀ it ∈ its, it.ok (g.at ρ ω) H) (y : Yld (Xi w ρ ω) H J its) (hm : MemR (g.at ρ ω) H m) : R J H := h ρ H J its (Xt.refl _ H) e ho y hm
/-- the one by one -/
def ones : List D → List V → List Itm
  | d :: ds, v :: vs => .one d v :: ones ds vs
  | _, _ => []
theorem ones_D {c : RC} {H : Hp} : ∀ {ds : List D} {vs : List V}, DnL c H ds vs → ds = (ones ds vs).map Itm.D
  | [], [], _ => rfl
  | d :: ds, v :: vs, ⟨_, t⟩ => congrArg (d :: ·) (ones_D t)
theorem ones_ok {c : RC} {H : Hp} : ∀ {ds : List D} {vs : List V}, DnL c H ds vs → ∀ it ∈ ones ds vs, it.ok c H
  | [], [], _, it, h => by cases h
  | d :: ds, v :: vs, ⟨h, t⟩, it, hm => by
    rcases List.mem_cons.mp hm with e | hm
    · subst e; exact h
    · exact ones_ok t it hm
theorem ones_len {c : RC} {H : Hp} : ∀ {ds : List D} {vs : List V}, DnL c H ds vs → (ones ds vs).length = vs.length
  | [], [], _ => rfl
  | d :: ds, v :: vs, ⟨_, t⟩ => congrArg (· + 1) (ones_len t)
theorem ones_at {c : RC} {H : Hp} : ∀ {ds : List D} {vs : List V} {i : Nat} {it : Itm}, DnL c H ds vs → (ones ds vs)[i]? = some it → ∃ d v, it = .one d v ∧ vs[i]? = some v
  | [], [], _, _, _, e => by simp [ones] at e
  | d :: ds, v :: vs, 0, it, _, e => ⟨d, v, by simpa [ones] using e.symm, rfl⟩
  | d :: ds, v :: vs, i + 1, it, ⟨_, t⟩, e => ones_at (i := i) t (by simpa [ones] using e)
theorem yld_list {K : PySem.W.Frag} {ξ : Addr → Prop} {H : Hp} {a : Addr} {c : RC} {ds : List D} {vs : List V} (l : DnL c H ds vs) (st : ∀ H', Kept ξ H H' → SqL K H' a vs) : Yld ξ H (Itl K a) (ones ds vs) where
  go := fun i H' k h => by
    rw [ones_len l] at h
    exact ⟨vs, vs[i], st H' k, List.getElem?_eq_getElem h⟩
  stop := fun H' k => ⟨vs, st H' k, by rw [ones_len l]; exact Nat.le_refl _⟩
  yld := fun i H' x H'' k ⟨e, y⟩ it hi => by
    obtain ⟨d, v, rfl, hv⟩ := ones_at l hi
    exact ⟨Option.some.inj ((y vs (st H' k)).symm.trans hv), e⟩
  len := fun k => by
    rw [ones_len l]
    rcases st H (fun _ _ e _ _ => e) with z | ⟨o, its, n, _, _, _, _, h1, h2⟩
    · exact k.1 a vs z
    · rw [h2.length, Array.length_toList]; exact h1
theorem yld_tup {K : PySem.W.Frag} {ξ : Addr → Prop} {H : Hp} {a : Addr} {c : RC} {ds : List D} {vs : List V} (l : DnL c H ds vs) (st : ∀ H', Kept ξ H H' → SqT K H' a vs) : Yld ξ H (Itt K a) (ones ds vs) where
  go := fun i H' k h => by
    rw [ones_len l] at h
    exact ⟨vs, vs[i], st H' k, List.getElem?_eq_getElem h⟩
  stop := fun H' k => ⟨vs, st H' k, by rw [ones_len l]; exact Nat.le_refl _⟩
  yld := fun i H' x H'' k ⟨e, y⟩ it hi => by
    obtain ⟨d, v, rfl, hv⟩ := ones_at l hi
    exact ⟨Option.some.inj ((y vs (st H' k)).symm.trans hv), e⟩
  len := fun k => by
    rw [ones_len l]
    rcases st H (fun _ _ e _ _ => e) with z | ⟨o, its, n, _, _, _, h1, h2⟩
    · exact k.2 a vs z
    · rw [h2.length, Array.length_toList]; exact h1
def chrD (z : Str) : List D := z.cps.toList.map fun c => .str ⟨#[c]⟩
def chrV (z : Str) : List V := z.cps.toList.map fun c => .str ⟨#[c]⟩
theorem chr_dn (c : RC) (H : Hp) : ∀ l : List Nat, DnL c H (l.map fun c => D.str ⟨#[c]⟩) (l.map fun c => V.str ⟨#[c]⟩)
  | [] => True.intro
  | _ :: l => ⟨rfl, chr_dn c H l⟩
theorem yld_str {ξ : Addr → Prop} {H : Hp} {c : RC} (z : Str) (hz : z.length ≤ line) : Yld ξ H (Its z) (ones (chrD z) (chrV z)) := by
  have l : DnL c H (chrD z) (chrV z) := chr_dn c H _
  have hl : (ones (chrD z) (chrV z)).length = z.cps.size := by rw [ones_len l]; simp [chrV]
  refine ⟨fun i H' k h => by rw [hl] at h; exact h, fun H' k => by rw [hl]; exact Nat.le_refl _, fun i H' x H'' k ⟨e, c', hc, hx⟩ it hi => ?_, fun _ => by rw [hl, ← line_eq]; exact hz⟩
  obtain ⟨d, v, rfl, hv⟩ := ones_at l hi
  unfold chrV at hv
  rw [List.getElem?_map, Array.getElem?_toList, hc] at hv
  exact ⟨hx.trans (Option.some.inj hv), e⟩
theorem Xi.of {w : Bool} {ρ ω : List Addr} {a : Addr} (h : ¬ Xi w ρ ω a) : a ∉ ρ := fun z => h (.inl z)
section
variable {X : Cx} {g : RC} {W : WX} {fe : FE} {a b e : Expr} {fa fb f : Env → M D} {pos : Pos} {tg : Expr}
/-- a list, a tuple or a text is walked -/
def SeqIt (K : PySem.W.Frag) (x : V) (H : Hp) (J : L2.It) : Prop :=
  (∃ p xs, x = .ref p ∧ SqL K H p xs ∧ J = Itl K p) ∨ (∃ p xs, x = .ref p ∧ SqT K H p xs ∧ J = Itt K p) ∨ ∃ z, x = .str z ∧ J = Its z
theorem seq_it {pins : List (Addr × Obj)} {σ : L2.St} {H : Hp} {s : Shared} {x : V} {v : Value} {J : L2.It} {R : L2.It → Hp → Prop} {E : Value → Shared → Prop} (I : L2.Inv X pins σ H s) (rx : L2.RelV x v) (h : SeqIt X.K x H J) (q : R J H) :
    wpAny (model X.prog X.w) X.A (pyIter v) (PIE X pins σ tg R) E s := by
  rcases h with ⟨p, xs, rfl, hq, rfl⟩ | ⟨p, xs, rfl, hq, rfl⟩ | ⟨z, rfl, rfl⟩
  · cases rx
    obtain ⟨its, _, pl, _⟩ := I.list hq
    exact wpAny_pyIter_list pl.isList (pi_one (tk := s.toks) I _ (turn_list p _) ⟨_, Heap.get?_push_size _ rfl, rfl, rfl⟩ q)
  · cases rx
    obtain ⟨its, _, pl, _⟩ := I.tuple hq
    exact wpAny_pyIter_tuple (show s.heap.IsTuple p its.toArray from pl) (pi_one (tk := s.toks) I _ (turn_tuple p _) ⟨_, Heap.get?_push_size _ rfl, rfl, rfl⟩ q)
  · obtain ⟨t, rfl⟩ := rx
    cases ha : z.cps.all (· < 128) with
    | true => exact wpAny_pyIter_ascii ha (pi_one (tk := s.toks) I _ (turn_str _ z t "str_ascii_iterator" (.inl rfl)) ⟨_, Heap.get?_push_size _ rfl, rfl, rfl⟩ q)
    | false => exact wpAny_pyIter_wide ha (pi_one (tk := s.toks) I _ (turn_str _ z t "str_iterator" (.inr rfl)) ⟨_, Heap.get?_push_size _ rfl, rfl, rfl⟩ q)
theorem pi_seq {l : Expr} {tl : TE} (hl : PE X l tl) : PI X tg l (fun σ H R => tl σ H fun x H1 => ∃ J, SeqIt X.K x H1 J ∧ R J H1) :=
  ⟨fun pins s σ H R I h => thn (hl.run pins s σ H _ I h) fun v s1 ⟨x, H1, I1, r1, J, hJ, q⟩ => seq_it I1 r1 hJ q⟩
/-- what is seen there, as it is walked -/
theorem seq_yld {w : Bool} {ρ ω : List Addr} {H : Hp} {d : D} {x : V} {ds : List D} (hK : X.K = g.K) (h : DnW (g.at ρ ω) H d x) (hs : w = false → Dn (g.at ρ ω) H d x) (e : seqOf d = some ds) :
    ∃ J its, SeqIt X.K x H J ∧ ds = its.map Itm.D ∧ (∀ it ∈ its, it.ok (g.at ρ ω) H) ∧ Yld (Xi w ρ ω) H J its := by
  cases d with
  | str z =>
    simp only [seqOf] at e
    by_cases hz : z.length ≤ line
    · rw [if_pos hz] at e
      cases e
      have l : DnL (g.at ρ ω) H (chrD z) (chrV z) := chr_dn _ _ _
      exact ⟨Its z, ones (chrD z) (chrV z), .inr (.inr ⟨z, h, rfl⟩), ones_D l, ones_ok l, yld_str (c := g) z hz⟩
    · rw [if_neg hz] at e
      cases e
  | lst xs =>
    cases e
    obtain ⟨a, vs, rfl, k, r, l⟩ := h
    refine ⟨Itl X.K a, ones ds vs, .inl ⟨a, vs, rfl, SqL.of r, rfl⟩, ones_D l, ones_ok l, yld_list l fun H' kp => SqL.of (kp a _ r (fun z => ?_) fun ps z => nomatch z)⟩
    rcases z with z | ⟨z1, z2⟩
    · exact k z
    · obtain ⟨a', vs', e', k', _⟩ := hs z1
      cases e'
      exact k'.w z2
  | tup xs =>
    cases e
    obtain ⟨a, vs, rfl, k, r, l⟩ := h
    refine ⟨Itt X.K a, ones ds vs, .inr (.inl ⟨a, vs, rfl, SqT.of r, rfl⟩), ones_D l, ones_ok l, yld_tup l fun H' kp => SqT.of (kp a _ r (fun z => ?_) fun ps z => nomatch z)⟩
    rcases z with z | ⟨z1, z2⟩
    · exact k.r z
    · exact k.w z2
  | frz xs =>
    cases e
    obtain ⟨a, vs, rfl, k, l⟩ := h
    have sq : ∀ H', Kept (Xi w ρ ω) H H' → SqL X.K H' a vs := fun H' kp => by
      rcases k with ⟨k, r⟩ | k
      · have nx : ¬ Xi w ρ ω a := fun z => by
          rcases z with z | ⟨z1, z2⟩
          · exact k.r z
          · exact k.w z2
        rcases r with r | ⟨ob, r⟩
        · exact .inl (.inl (kp a _ r nx fun ps z => nomatch z))
        · exact .inl (.inr ⟨ob, kp a _ r nx fun ps z => nomatch z⟩)
      · rw [hK]; exact .inr k
    exact ⟨Itl X.K a, ones ds vs, .inl ⟨a, vs, rfl, sq H (fun _ _ e _ _ => e), rfl⟩, ones_D l, ones_ok l, yld_list l sq⟩
  | _ => cases e
theorem snd_seqW (hK : X.K = g.K) (ha : PE X a (RdW g fa W)) : PI X tg a (RdI true g (fun env => bnd (fa env) fun x => lift (seqOf x)) W) :=
  PI.imp (pi_seq ha) fun σ H R ⟨ρ, ω, env, m, he, hm, hp⟩ => ⟨ρ, ω, env, m, he, hm, hp.bind fun ρ1 H1 d x m1 x1 hx hm1 hp1 => by
    cases q : seqOf d with
    | none => rw [q] at hp1; exact hp1.elim
    | some ds =>
      rw [q] at hp1
      obtain ⟨J, its, h1, h2, h3, h4⟩ := seq_yld (w := true) hK hx (fun z => nomatch z) q
      exact ⟨J, h1, PostI.ret hp1 h2 h3 h4 hm1⟩⟩
theorem snd_seqS (hK : X.K = g.K) (ha : PE X a (RdE g fa W)) : PI X tg a (RdI false g (fun env => bnd (fa env) fun x => lift (seqOf x)) W) :=
  PI.imp (pi_seq ha) fun σ H R ⟨ρ, ω, env, m, he, hm, hp⟩ => ⟨ρ, ω, env, m, he, hm, hp.bind fun ρ1 H1 d x m1 x1 hx hm1 hp1 => by
    cases q : seqOf d with
    | none => rw [q] at hp1; exact hp1.elim
    | some ds =>
      rw [q] at hp1
      obtain ⟨J, its, h1, h2, h3, h4⟩ := seq_yld (w := false) hK hx.weak (fun _ => hx) q
      exact ⟨J, h1, PostI.ret hp1 h2 h3 h4 hm1⟩⟩
/-! ### range -/
def rngs (lo : Int) (n : Nat) : List Itm := (List.range n).map fun (i : Nat) => .one (.int (lo + (i : Int))) (.int (lo + (i : Int)))
theorem rngs_D (lo : Int) (n : Nat) : rangeD lo n = (rngs lo n).map Itm.D := by
  unfold rangeD rngs
  rw [List.map_map]
  rfl
theorem rngs_ok (c : RC) (H : Hp) (lo : Int) (n : Nat) : ∀ it ∈ rngs lo n, it.ok c H := fun it h => by
  obtain ⟨i, _, rfl⟩ := List.mem_map.mp h
  exact rfl
theorem yld_rng {ξ : Addr → Prop} {H : Hp} (lo : Int) (n : Nat) (hn : n ≤ line) : Yld ξ H (Itr lo n) (rngs lo n) := by
  have hl : (rngs lo n).length = n := by simp [rngs]
  refine ⟨fun i H' k h => by rw [hl] at h; exact h, fun H' k => by rw [hl]; exact Nat.le_refl _, fun i H' x H'' k ⟨e, hx⟩ it hi => ?_, fun _ => by rw [hl, ← line_eq]; exact hn⟩
  unfold rngs at hi
  rw [List.getElem?_map] at hi
  obtain ⟨j, hj, rfl⟩ := Option.map_eq_some_iff.mp hi
  have : j = i := by
    have := (List.getElem?_eq_some_iff.mp hj).2
    simpa using this.symm
  subst this
  exact ⟨hx, e⟩
theorem line_lt : (line : Int) < 2 ^ 30 := by decide
theorem guardI {w : Bool} {g : RC} {ρ ω : List Addr} {H : Hp} {k : Bool} {x : M (List D)} {m : Mem} {R : L2.It → Hp → Prop} {Ex : XK} (h : PostI w g ρ ω H (guardM k x m) R Ex) : k = true ∧ PostI w g ρ ω H (x m) R Ex := by
  unfold guardM at h
  cases k with
  | true => exact ⟨rfl, h⟩
  | false => exact h.elim
theorem snd_rng1 {w : Bool} {p : Pos} (hg : Gl X "range") (hm : X.mg "range" = none) (ha : PE X a (RdE g fa W)) (hs : starEach [a] X.env = [(false, eval a X.env)]) :
    PI X tg (.Call (.Name "range" p) [a] [] pos) (RdI w g (fun env => bnd (fa env) fun x => match x with | .int j => guardM (decide (j ≤ line ∧ -(2 ^ 62) ≤ j)) (ret (rangeD 0 j.toNat)) | _ => stuck) W) :=
  PI.imp (pi_range1 hg hm (pa_cons ha pa_nil hs) hs) fun σ H R ⟨ρ, ω, env, m, he, hm, hp⟩ => ⟨ρ, ω, env, m, he, hm, hp.bind fun ρ1 H1 d x m1 x1 hx hm1 hp1 => by
    cases d with
    | int j =>
      obtain ⟨k, hp1⟩ := guardI hp1
      obtain ⟨k1, k2⟩ := of_decide_eq_true k
      have := line_lt
      exact ⟨j, by rw [show x = V.int j from hx], k2, by omega, PostI.ret hp1 (rngs_D 0 _) (rngs_ok _ _ _ _) (yld_rng 0 _ (by omega)) hm1⟩
    | _ => exact hp1.elim⟩
theorem snd_rng2 {w : Bool} {p : Pos} (hg : Gl X "range") (hm : X.mg "range" = none) (ha : PE X a (RdE g fa W)) (hb : PE X b (RdE g fb W)) (hs : starEach [a, b] X.env = [(false, eval a X.env), (false, eval b X.env)]) (hs2 : starEach [b] X.env = [(false, eval b X.env)]) :
    PI X tg (.Call (.Name "range" p) [a, b] [] pos) (RdI w g (fun env => bnd (fa env) fun x => bnd (fb env) fun y => match x, y with
      | .int i, .int j => guardM (decide (-(2 ^ 60) ≤ i ∧ i ≤ 2 ^ 60 ∧ -(2 ^ 60) ≤ j ∧ j ≤ 2 ^ 60 ∧ j - i ≤ line)) (ret (rangeD i (j - i).toNat))
      | _, _ => stuck) W) :=
  PI.imp (pi_range2 hg hm (pa_cons ha (pa_cons hb pa_nil hs2) (by rw [hs, hs2])) hs hs2) fun σ H R ⟨ρ, ω, env, m, he, hm, hp⟩ => ⟨ρ, ω, env, m, he, hm, hp.bind fun ρ1 H1 d x m1 x1 hx hm1 hp1 =>
    ⟨ρ1, ω, env, m1, he.later hm x1, hm1, hp1.bind fun ρ2 H2 d2 y m2 x2 hy hm2 hp2 => by
      cases d with
      | int i =>
        cases d2 with
        | int j =>
          obtain ⟨k, hp2⟩ := guardI hp2
          obtain ⟨k1, k2, k3, k4, k5⟩ := of_decide_eq_true k
          exact ⟨i, j, by rw [show x = V.int i from hx, show y = V.int j from hy], ⟨by omega, by omega, by omega, by omega⟩, PostI.ret hp2 (rngs_D i _) (rngs_ok _ _ _ _) (yld_rng i _ (by omega)) hm2⟩
        | _ => exact hp2.elim
      | _ => cases d2 <;> exact hp2.elim⟩⟩
end
end Ev
end
section
set_option Elab.async false
set_option linter.all false
set_option maxRecDepth 100000
set_option maxHeartbeats 2000000
/-! Ev: targets, comprehensions. -/
namespace Ev
open PySem PySem.Spec PyProof.Rows L2

/-! ### targets -/
def Chg (is : List Nat) (σ σ' : L2.St) : Prop := σ'.length = σ.length ∧ ∀ i, i ∉ is → σ'[i]? = σ[i]?
theorem Chg.refl (is : List Nat) (σ : L2.St) : Chg is σ σ := ⟨rfl, fun _ _ => rfl⟩
theorem Chg.trans {is : List Nat} {σ σ1 σ2 : L2.St} (a : Chg is σ σ1) (b : Chg is σ1 σ2) : Chg is σ σ2 := ⟨b.1.trans a.1, fun i h => (b.2 i h).trans (a.2 i h)⟩
theorem Chg.mono {is js : List Nat} {σ σ' : L2.St} (h : ∀ i ∈ is, i ∈ js) (a : Chg is σ σ') : Chg js σ σ' := ⟨a.1, fun i n => a.2 i fun z => n (h i z)⟩
theorem Chg.set (σ : L2.St) (i : Nat) (v : Option V) : Chg [i] σ (σ.set i v) := ⟨by simp, fun j n => List.getElem?_set_ne (fun e => n (by simp [e]))⟩
theorem wipe_get (σ : L2.St) : ∀ (is : List Nat) (i : Nat), (L2.wipe σ is)[i]? = if i ∈ is then (σ[i]?).map (fun _ => none) else σ[i]?
  | [], i => by simp [L2.wipe]
  | k :: is, i => by
    unfold L2.wipe
    by_cases e : k = i
    · subst e
      rw [if_pos List.mem_cons_self]
      by_cases h : k < σ.length
      · rw [List.getElem?_set_self (by rw [wipe_length]; exact h), List.getElem?_eq_getElem h]; rfl
      · rw [List.getElem?_eq_none (by simp [wipe_length]; omega), List.getElem?_eq_none (by omega)]; rfl
    · rw [List.getElem?_set_ne e, wipe_get σ is i]
      by_cases m : i ∈ is
      · rw [if_pos m, if_pos (List.mem_cons_of_mem _ m)]
      · rw [if_neg m, if_neg (fun z => (List.mem_cons.mp z).elim (fun q => e q.symm) m)]
theorem wipe_chg {is : List Nat} {σ σ' : L2.St} (h : Chg is (L2.wipe σ is) σ') : L2.wipe σ' is = L2.wipe σ is := by
  refine List.ext_getElem? fun i => ?_
  rw [wipe_get, wipe_get]
  by_cases m : i ∈ is
  · rw [if_pos m, if_pos m]
    have hl : σ'.length = σ.length := by rw [h.1, wipe_length]
    by_cases hi : i < σ.length
    · rw [List.getElem?_eq_getElem hi, List.getElem?_eq_getElem (by omega)]; rfl
    · rw [List.getElem?_eq_none (by omega), List.getElem?_eq_none (by omega)]
  · rw [if_neg m, if_neg m, h.2 i m, wipe_get, if_neg m]
def RdG (g : RC) (gt : G) : TG := fun v σ H Q => ∃ ρ ω env m d env', EnvR (g.at ρ ω) H env σ ∧ MemR (g.at ρ ω) H m ∧ Dn (g.at ρ ω) H d v ∧ bindG gt d env = some env' ∧
  ∀ σ', EnvR (g.at ρ ω) H env' σ' → Chg (slots gt) σ σ' → Q σ' H
def RdGs (g : RC) (gs : List G) : TGs := fun vs σ H Q => ∃ ρ ω env m ds env', EnvR (g.at ρ ω) H env σ ∧ MemR (g.at ρ ω) H m ∧ DnL (g.at ρ ω) H ds vs ∧ bindGs gs ds env = some env' ∧
  ∀ σ', EnvR (g.at ρ ω) H env' σ' → Chg (slotss gs) σ σ' → Q σ' H
section
variable {X : Cx} {g : RC} {W : WX} {pos : Pos}
theorem PG.imp {e : Expr} {t t' : TG} (h : PG X e t) (k : ∀ v σ H Q, t' v σ H Q → t v σ H Q) : PG X e t' := ⟨fun pins s σ H v u Q I r hw => h.run pins s σ H v u Q I r (k v σ H Q hw)⟩
theorem PGs.imp {e : List Expr} {t t' : TGs} (h : PGs X e t) (k : ∀ v σ H Q, t' v σ H Q → t v σ H Q) : PGs X e t' := ⟨fun pins s σ H v u Q I r hw => h.run pins s σ H v u Q I r (k v σ H Q hw)⟩
theorem snd_gname {i : Nat} {e : Expr} (h : PG X e (gName i)) : PG X e (RdG g (.name i)) := PG.imp h fun v σ H Q ⟨ρ, ω, env, m, d, env', he, hm, hd, hb, k⟩ => by
  unfold bindG at hb
  split at hb
  · cases hb
    exact k _ (he.set i hd) (Chg.set σ i _)
  · cases hb
theorem snd_gtup {es : List Expr} {k : Nat} {gs : List G} (hK : X.K = g.K) (hc : X.calm = true) (h : PGs X es (RdGs g gs)) (hn : (assignEach es X.env).length = gs.length) (hst : (assignEach es X.env).findIdx? (·.1) = none) :
    PG X (.Tuple es k pos) (RdG g (.tup gs)) := PG.imp (pg_tup hc h hn hst) fun v σ H Q ⟨ρ, ω, env, m, d, env', he, hm, hd, hb, k⟩ => by
  cases d with
  | tup ds =>
    obtain ⟨a, vs, rfl, _, r, l⟩ := hd
    have hl : ∀ (gs : List G) (ds : List D) (env env' : Env), bindGs gs ds env = some env' → gs.length = ds.length := by
      intro gs
      induction gs with
      | nil => intro ds env env' e; cases ds with
        | nil => rfl
        | cons => cases e
      | cons g gs ih => intro ds env env' e; cases ds with
        | nil => cases e
        | cons d ds =>
          unfold bindGs at e
          obtain ⟨e1, _, e3⟩ := Option.bind_eq_some_iff.mp e
          exact congrArg (· + 1) (ih ds e1 env' e3)
    exact ⟨a, vs, rfl, SqT.of r, by rw [← l.length]; exact (hl _ _ _ _ hb).symm, ρ, ω, env, m, ds, env', he, hm, l, hb, k⟩
  | _ => exact nomatch hb
theorem snd_gnil : PGs X [] (RdGs g []) := PGs.imp pgs_nil fun vs σ H Q ⟨ρ, ω, env, m, ds, env', he, hm, hd, hb, k⟩ => by
  cases ds with
  | nil =>
    cases vs with
    | nil => cases hb; exact ⟨rfl, k σ he (Chg.refl _ σ)⟩
    | cons => exact hd.elim
  | cons => cases hb
theorem snd_gcons {e : Expr} {es : List Expr} {gt : G} {gs : List G} (h1 : PG X e (RdG g gt)) (h2 : PGs X es (RdGs g gs)) (hs : (assignEach (e :: es) X.env).map (·.2) = assign e X.env :: (assignEach es X.env).map (·.2)) :
    PGs X (e :: es) (RdGs g (gt :: gs)) := PGs.imp (pgs_cons h1 h2 hs) fun vs σ H Q ⟨ρ, ω, env, m, ds, env', he, hm, hd, hb, k⟩ => by
  cases ds with
  | nil => cases hb
  | cons d ds =>
    cases vs with
    | nil => exact hd.elim
    | cons v vs =>
      unfold bindGs at hb
      obtain ⟨e1, b1, b2⟩ := Option.bind_eq_some_iff.mp hb
      refine ⟨v, vs, rfl, ρ, ω, env, m, d, e1, he, hm, hd.1, b1, fun σ' he' ch => ⟨ρ, ω, e1, m, ds, env', he', hm, hd.2, b2, fun σ'' he'' ch' => k σ'' he'' ?_⟩⟩
      exact (ch.mono fun i h => List.mem_append_left _ h).trans (ch'.mono fun i h => List.mem_append_right _ h)
/-! ### comprehensions -/
abbrev W0 : WX := fun _ _ _ _ => False
def DnB : Rel Bool Bool := fun _ _ k b => k = b
abbrev RdC (g : RC) (f : Env → M Bool) : TT := fun σ H Q => rdM g DnB f W0 σ H Q
theorem snd_c0 : PTs X [] (RdC g (fun _ => ret true)) := ⟨fun pins s σ H Q I ⟨ρ, ω, env, m, he, hm, hp⟩ => pts_nil.run pins s σ H Q I (PostG.ret (R := DnB) hp rfl hm)⟩
theorem snd_c1 {c : Expr} {f : Env → M D} (h : PT X c (RdT g f W0)) : PTs X [c] (RdC g (fun env => asBool (f env))) :=
  ⟨fun pins s σ H Q I ⟨ρ, ω, env, m, he, hm, hp⟩ => (pts_one h).run pins s σ H Q I ⟨ρ, ω, env, m, he, hm, PostG.bind (R := DnB) hp fun ρ1 H1 d x m1 x1 hx hm1 hp1 => by
    cases d with
    | bl k => exact ⟨k, hx, PostG.ret (R := DnB) hp1 rfl hm1⟩
    | _ => exact hp1.elim⟩⟩
theorem PI.len {tg e : Expr} {t : TI} (h : PI X tg e t) : PI X tg e (fun σ H R => t σ H fun J H1 => HLen H1 → R J H1) :=
  ⟨fun pins s σ H R I hw => thn (h.run pins s σ H _ I hw) fun v s1 h1 => thn h1 fun itv s2 ⟨it, fp, tn, J, H', e, I2, T, st, f, q⟩ => ⟨it, fp, tn, J, H', e, I2, T, st, f, q (hlen_of I2.hok)⟩⟩
theorem PostG.bindI {α β : Type} {w : Bool} {ρ ω : List Addr} {H : Hp} {R : Rel α β} {r : Res (List D)} {f : List D → M α} {Q : β → Hp → Prop} {Ex : XK} {Q1 : L2.It → Hp → Prop} (h : PostG R (g.at ρ ω) H (r.bind f) Q Ex)
    (k : ∀ ρ1 H1 J its m1, Xt (g.at ρ ω) H ρ1 H1 → (∀ it ∈ its, it.ok (g.at ρ1 ω) H1) → Yld (Xi w ρ1 ω) H1 J its → MemR (g.at ρ1 ω) H1 m1 → PostG R (g.at ρ1 ω) H1 (f (its.map Itm.D) m1) Q Ex → Q1 J H1) : PostI w g ρ ω H r Q1 Ex := by
  cases r with
  | ok ds m => exact fun ρ' H' J its x e ho y hm => k ρ' H' J its m x ho y hm (by subst e; exact PostG.after x h)
  | exc C fs m => exact h
  | bad => exact h.elim
theorem PostF.bindI {w : Bool} {ρ ω : List Addr} {H : Hp} {r : Res (List D)} {f : List D → M D} {Q : VK} {Ex : XK} {Q1 : L2.It → Hp → Prop} (h : PostF (g.at ρ ω) H (r.bind f) Q Ex)
    (k : ∀ ρ1 H1 J its m1, Xt (g.at ρ ω) H ρ1 H1 → (∀ it ∈ its, it.ok (g.at ρ1 ω) H1) → Yld (Xi w ρ1 ω) H1 J its → MemR (g.at ρ1 ω) H1 m1 → PostF (g.at ρ1 ω) H1 (f (its.map Itm.D) m1) Q Ex → Q1 J H1) : PostI w g ρ ω H r Q1 Ex := by
  cases r with
  | ok ds m => exact fun ρ' H' J its x e ho y hm => k ρ' H' J its m x ho y hm (by subst e; exact PostF.after x h)
  | exc C fs m => exact h
  | bad => exact h.elim
theorem PostG.calm {α β : Type} {R : Rel α β} {c : RC} {H : Hp} {r : Res α} {Q : β → Hp → Prop} {Ex Ex' : XK} (h : PostG R c H r.calm Q Ex) : PostG R c H r Q Ex' := by
  cases r with
  | ok a m => exact h
  | exc C fs m => exact h.elim
  | bad => exact h.elim
theorem bind_calm {α β γ : Type} {R : Rel α β} {c : RC} {H : Hp} {r : Res γ} {f : γ → M α} {Q : β → Hp → Prop} {Ex : XK} (h : PostG R c H (r.calm.bind f) Q Ex) : r.calm = r := by
  cases r with
  | ok a m => rfl
  | exc C fs m => exact h.elim
  | bad => rfl
theorem Itm.dn {c : RC} {H H' : Hp} {m : Mem} {it : Itm} {x : V} (hm : MemR c H m) (ho : it.ok c H) (a : it.at H H' x) : (H' = H ∨ ∃ p o, H p = none ∧ H' = upd H p (.tup o)) ∧ Dn c H' it.D x := by
  cases it with
  | one d v =>
    obtain ⟨rfl, rfl⟩ := a
    exact ⟨.inl rfl, ho⟩
  | two d e v w =>
    obtain ⟨T, rfl, n, rfl⟩ := a
    exact ⟨.inr ⟨T, _, n, rfl⟩, T, [v, w], rfl, hm.ok_new n, upd_same, DnL.mono (c := c) (Xt.laid n) [d, e] [v, w] ⟨ho.1, ho.2, True.intro⟩⟩
theorem Itm.mono {c : RC} {H H' : Hp} {ρ' : List Addr} (x : Xt c H ρ' H') {it : Itm} (h : it.ok c H) : it.ok (c.r ρ') H' := by
  cases it with
  | one d v => exact Dn.mono x d v h
  | two d e v w => exact ⟨Dn.mono x d v h.1, Dn.mono x e w h.2⟩
theorem Itm.more {c : RC} {H : Hp} {p : Addr} (n : Fr0 H p) {it : Itm} (h : it.ok c H) : it.ok (c.w (p :: c.ω)) H := by
  cases it with
  | one d v => exact Dn.more n d v h
  | two d e v w => exact ⟨Dn.more n d v h.1, Dn.more n e w h.2⟩
theorem Xt.w {c : RC} {H H' : Hp} {ρ' ω' : List Addr} (x : Xt c H ρ' H') : Xt (c.w ω') H ρ' H' := ⟨x.pre, x.new, x.keep, x.there⟩
/-- the list at L grows, nothing else -/
theorem fr_ne {H : Hp} {a b : Addr} {o : HO} (e : H a = some o) (t : ∀ ps, o ≠ .tbl ps) (n : Fr0 H b) : a ≠ b := fun z => by subst z; exact fr_no n e t
theorem Xt.grow {c : RC} {H0 H : Hp} {ρ' : List Addr} {L : Addr} {o : HO} (x : Xt c H0 ρ' H) (n : Fr0 H0 L) : Xt c H0 ρ' (upd H L o) := by
  refine ⟨x.pre, x.new, fun a u e h t => ?_, fun a u e t => ?_⟩
  · rw [upd_ne (fr_ne e t n)]; exact x.keep a u e h t
  · rw [upd_ne (fr_ne e t n)]; exact x.there a u e t
end
end Ev
end
section
set_option Elab.async false
set_option linter.all false
set_option maxRecDepth 100000
set_option maxHeartbeats 2000000
/-! Ev: list comprehensions. -/
namespace Ev
open PySem PySem.Spec PyProof.Rows L2
section
variable {X : Cx} {g : RC} {W : WX} {pos : Pos}
theorem comp_rd {gt : G} {fi : Env → M (List D)} {fc : Env → M Bool} {fe : Env → M D} {ow : List Nat} {σ : L2.St} {H : Hp} {Q : VK}
    (h : RdF g (fun env => bnd (fi env) fun ds => guardM ((slots gt).all fun i => ow.contains i) (bnd (compLoop (fun d => bindG gt d (wipeE env ow)) fc fe ds []) fun xs => ret (.lst xs))) W σ H Q) :
    tLc (fun σ H R => RdI true g fi W σ H fun J H1 => HLen H1 → R J H1) (RdG g gt) (RdC g fc) (RdE g fe W0) ow σ H Q := by
  obtain ⟨ρ, ω, env, m, he, hm, hp⟩ := h
  refine ⟨ρ, ω, env, m, he, hm, PostF.bindI (r := fi env m) (f := fun ds => guardM ((slots gt).all fun i => ow.contains i) (bnd (compLoop (fun d => bindG gt d (wipeE env ow)) fc fe ds []) fun xs => ret (.lst xs))) hp fun ρ1 H1 J its m1 x1 ho hy hm1 hp1 hlen L nL => ?_⟩
  obtain ⟨hsl, hp1⟩ : (∀ i ∈ slots gt, i ∈ ow) ∧ PostF (g.at ρ1 ω) H1 ((compLoop (fun d => bindG gt d (wipeE env ow)) fc fe (its.map Itm.D) [] m1).bind fun xs => ret (.lst xs)) Q (fun cls d H' => W cls d σ H') := by
    unfold guardM at hp1
    split at hp1
    · rename_i k
      refine ⟨fun i hi => ?_, hp1⟩
      have := List.all_eq_true.mp k i hi
      simpa using this
    · exact hp1.elim
  have hz := hy.len hlen
  refine ⟨fun i k H2 => k = its.length - i ∧ i ≤ its.length ∧ ∃ ρ2 acc vs m2, Xt (g.at ρ1 ω) H1 ρ2 H2 ∧ H2 L = some (.lst vs) ∧ DnL (g.at ρ2 (L :: ω)) H2 acc vs ∧ MemR (g.at ρ2 (L :: ω)) H2 m2 ∧ vs.length ≤ i ∧
      compLoop (fun d => bindG gt d (wipeE env ow)) fc fe (its.map Itm.D) [] m1 = compLoop (fun d => bindG gt d (wipeE env ow)) fc fe ((its.map Itm.D).drop i) acc m2,
    ⟨its.length, by simp, Nat.zero_le _, ρ1, [], [], m1, Xt.laid nL, upd_same, True.intro, hm1.hold nL (fun ps z => nomatch z), Nat.le_refl _, rfl⟩, ?_⟩
  rintro i k H2 ⟨rfl, hi, ρ2, acc, vs, m2, x2, eL, lL, hm2, lv, eq⟩
  have kp : Kept (Xi true ρ1 ω) H1 H2 := fun a o e n t => x2.keep a o e (fun z => n (.inl z)) t
  rw [eq] at hp1
  by_cases hlt : i < its.length
  · refine .inr ⟨hy.go i H2 kp hlt, fun H' => ∃ ρ3 acc3 vs3 m3, Xt (g.at ρ1 ω) H1 ρ3 H' ∧ H' L = some (.lst vs3) ∧ DnL (g.at ρ3 (L :: ω)) H' acc3 vs3 ∧ MemR (g.at ρ3 (L :: ω)) H' m3 ∧ vs3.length ≤ i + 1 ∧
        compLoop (fun d => bindG gt d (wipeE env ow)) fc fe (its.map Itm.D) [] m1 = compLoop (fun d => bindG gt d (wipeE env ow)) fc fe ((its.map Itm.D).drop (i + 1)) acc3 m3,
      fun H' h => ⟨its.length - (i + 1), by omega, rfl, hlt, h⟩, fun x H' hx => ?_⟩
    obtain ⟨it, hit⟩ : ∃ it, its[i]? = some it := ⟨_, List.getElem?_eq_getElem hlt⟩
    have hat := hy.yld i H2 x H' kp hx it hit
    have ok2 : it.ok (g.at ρ2 (L :: ω)) H2 := Itm.mono (c := g.at ρ1 (L :: ω)) x2.w (Itm.more (c := g.at ρ1 ω) (fr0_none nL) (ho it (List.mem_of_getElem? hit)))
    obtain ⟨hgrow, hd⟩ := Itm.dn hm2 ok2 hat
    have hds : (its.map Itm.D).drop i = it.D :: (its.map Itm.D).drop (i + 1) := by
      rw [List.drop_eq_getElem_cons (by simpa using hlt)]
      congr 1
      rw [List.getElem_map]
      exact congrArg Itm.D (Option.some.inj ((List.getElem?_eq_getElem hlt).symm.trans hit))
    rw [hds] at hp1 eq
    -- the heap behind the iterator's turn
    obtain ⟨xg, eL', lL', hm'⟩ : Xt (g.at ρ2 (L :: ω)) H2 ρ2 H' ∧ H' L = some (.lst vs) ∧ DnL (g.at ρ2 (L :: ω)) H' acc vs ∧ MemR (g.at ρ2 (L :: ω)) H' m2 := by
      rcases hgrow with rfl | ⟨p, o, n, rfl⟩
      · exact ⟨Xt.refl _ _, eL, lL, hm2⟩
      · exact ⟨Xt.laid n, by rw [upd_ne (ne_of_none eL n)]; exact eL, DnL.laid (c := g.at ρ2 (L :: ω)) n lL, hm2.laid n⟩
    have x3 : Xt (g.at ρ1 ω) H1 ρ2 H' := x2.trans xg.w
    have he' : EnvR (g.at ρ2 (L :: ω)) H' (wipeE env ow) (L2.wipe σ ow) := by
      have a1 : EnvR (g.at ρ1 ω) H1 env σ := he.later hm x1
      have a2 : EnvR (g.at ρ1 (L :: ω)) H1 env σ := EnvR.more (c := g.at ρ1 ω) (fr0_none nL) a1
      have dj : ∀ a ∈ L :: ω, a ∉ ρ1 := fun a ha => by
        rcases List.mem_cons.mp ha with e | ha
        · subst e; exact (hm1.ok_new nL).r
        · exact hm1.dj a ha
      exact (EnvR.mono (c := g.at ρ1 (L :: ω)) (x3.w) dj a2).wipe ow
    rw [compLoop] at hp1 eq
    cases hb : bindG gt it.D (wipeE env ow) with
    | none => rw [hb] at hp1; exact hp1.elim
    | some env2 =>
      rw [hb] at hp1 eq
      dsimp only [bnd] at hp1 eq
      refine ⟨ρ2, L :: ω, wipeE env ow, m2, it.D, env2, he', hm', hd, hb, fun σ2 he2 ch => ⟨wipe_chg (ch.mono hsl), ?_⟩⟩
      -- the test
      have nLr : L ∉ ρ2 := hm2.dj L List.mem_cons_self
      refine ⟨ρ2, L :: ω, env2, m2, he2, hm', ?_⟩
      cases qc : fc env2 m2 with
      | bad => rw [qc] at hp1; exact hp1.elim
      | exc C fs mm => rw [qc] at hp1; exact hp1.elim
      | ok kb m3 =>
        rw [qc] at hp1 eq
        intro ρ4 H4 b x4 hb4 hm4
        cases hb4
        have eL4 : H4 L = some (.lst vs) := x4.keep L _ eL' nLr (fun ps z => nomatch z)
        have lL4 : DnL (g.at ρ4 (L :: ω)) H4 acc vs := DnL.mono x4 acc vs lL'
        have x14 : Xt (g.at ρ1 ω) H1 ρ4 H4 := x3.trans x4.w
        cases kb with
        | false => exact iteF ⟨ρ4, acc, vs, m3, x14, eL4, lL4, hm4, by omega, eq⟩
        | true =>
          refine iteT ⟨ρ4, L :: ω, env2, m3, he2.later hm' x4, hm4, ?_⟩
          dsimp only [Res.calm, Res.bind] at hp1 eq
          rw [if_pos rfl] at hp1 eq
          dsimp only [bnd] at hp1 eq
          cases qe : fe env2 m3 with
          | bad => (rw [qe] at hp1; exact hp1.elim)
          | exc C fs mm => (rw [qe] at hp1; exact hp1.elim)
          | ok d5 m5 =>
            rw [qe] at eq
            dsimp only [Res.bind] at eq
            intro ρ5 H5 y x5 hy5 hm5
            have nLr4 : L ∉ ρ4 := hm4.dj L List.mem_cons_self
            have eL5 : H5 L = some (.lst vs) := x5.keep L _ eL4 nLr4 (fun ps z => nomatch z)
            refine ⟨vs, eL5, Nat.lt_of_lt_of_le (Nat.lt_of_le_of_lt lv hlt) hz, ρ5, acc ++ [d5], vs ++ [y], m5, (x14.trans x5.w).grow (fr0_none nL), upd_same, ?_, ?_, by rw [List.length_append]; simp; omega, eq⟩
            · have h5 : DnL (g.at ρ5 (L :: ω)) H5 (acc ++ [d5]) (vs ++ [y]) := (DnL.mono x5 acc vs lL4).append (DnL.one hy5)
              exact DnL.monoW (c := g.at ρ5 (L :: ω)) (Xw.own List.mem_cons_self) _ _ h5
            · exact hm5.own_upd List.mem_cons_self eL5 (fun ps z => nomatch z) lst_code (fun ps z => nomatch z)
  · have e : i = its.length := by omega
    subst e
    refine .inl ⟨hy.stop H2 kp, ?_⟩
    rw [List.drop_of_length_le (by simp)] at hp1
    exact hp1 ρ2 H2 L x2 (fr0_none nL) ⟨vs, eL, lL⟩ hm2
end
end Ev
end
section
set_option Elab.async false
set_option linter.all false
set_option maxRecDepth 100000
set_option maxHeartbeats 2000000
/-! Ev: defs by what they compute, and their calls. -/
namespace Ev
open PySem PySem.Spec PyProof.Rows L2

/-- a def's promise, where no repr is under way -/
structure FnG (P : Program) (w : World) (K : PySem.W.Frag) (mg : Str → Option Value) (base : Heap) (gd : Bool) (k : Nat) (f : Addr) (fd : FuncData) (ps : List Str) (sp : Sp) : Prop where
  len : ∀ vs H Q E, sp vs H Q E → vs.length = ps.length
  go : ∀ (A : Around) (out : List PySem.Env) (st : Shared) (H : Hp) (args : Args) (us : List Value) (vs : List V) (Q : VK) (E : XK), Room k A → (gd = true → A.guards = some []) →
    Env0 P w K mg base A out st H → BindsTo st fd args (ps.zip us) → Vals vs us → sp vs H Q E →
    codeAny (model P w) A (.call (.ref f) args) (CR (L2.CX P w) out P w H st Q E) st
theorem FnG.mono {P : Program} {w : World} {K : PySem.W.Frag} {mg : Str → Option Value} {base : Heap} {gd : Bool} {j k : Nat} {f : Addr} {fd : FuncData} {ps : List Str} {sp : Sp} (F : FnG P w K mg base gd j f fd ps sp) (h : j ≤ k) :
    FnG P w K mg base gd k f fd ps sp := ⟨F.len, fun A out st H args us vs Q E hr => F.go A out st H args us vs Q E (hr.mono h)⟩
/-- what f computes -/
def spD (g : RC) (n : Nat) (fx : List D → M D) : Sp := fun vs H Q E => vs.length = n ∧ ∃ ρ ω m ds, MemR (g.at ρ ω) H m ∧ DnL (g.at ρ ω) H ds vs ∧ PostG Dn (g.at ρ ω) H (fx ds m) Q E
section
variable {X : Cx} {g : RC} {W : WX} {fe : FE} {gd : Bool} {k : Nat} {f : Addr} {fd : FuncData} {ps : List Str} {sp : Sp} {pins : List (Addr × Obj)} {σ : L2.St} {H : Hp} {s : Shared} {Q : VK} {E : XK} {us : List Value} {vs : List V} {args : Args}
theorem goG (F : FnG X.prog X.w X.K X.mg X.base gd k f fd ps sp) (hr : Room k X.A) (hgd : gd = true → X.A.guards = some []) (hx : PassesAt (L2.CX X.prog X.w) X σ E) (I : L2.Inv X pins σ H s) (b : BindsTo s fd args (ps.zip us)) (r : Vals vs us) (h : sp vs H Q E) :
    codeAny (model X.prog X.w) X.A (.call (.ref f) args) (fun r s' => match r with | .ok (.ret u) => EP X pins σ Q u s' | .ok _ => False | .error e => X.xe e s') s := by
  refine codeAny_mono (F.go X.A X.stack s H args us vs Q E hr hgd I.env0 b r h) fun res s' hq => ?_
  match res, hq with
  | .error e, hq => exact hx pins H s e s' I hq
  | .ok (.ret u), hq => exact I.after hq
theorem callG (F : FnG X.prog X.w X.K X.mg X.base gd k f fd ps sp) (hr : Room k X.A) (hgd : gd = true → X.A.guards = some []) (hx : PassesAt (L2.CX X.prog X.w) X σ E) (I : L2.Inv X pins σ H s) {kw : List (Str × Value)} {ws : List Value} (b : BindsTo s fd ⟨us, kw⟩ (ps.zip ws)) (r : Vals vs ws) (h : sp vs H Q E) :
    wpAny (model X.prog X.w) X.A (call (.ref f) us kw) (EP X pins σ Q) X.xe s := by
  refine wpAny_call (codeAny_mono (goG F hr hgd hx I b r h) fun res s' hq => ?_)
  match res, hq with
  | .error e, hq => exact hq
  | .ok (.ret u), hq => exact hq
variable {x : Str} {p pos : Pos} {e : Expr} {es : List Expr} {fs : Env → M (List D)} {fx : List D → M D} {n : Nat}
theorem snd_call (F : FnG X.prog X.w X.K X.mg X.base gd k f fd ps (spD g n fx)) (hn : ps.length = n) (hr : Room k X.A) (hgd : gd = true → X.A.guards = some []) (tk : Takes X W) (hg : Gl X x) (hm : X.mg x = some (.ref f)) (hk : PySem.W.keepIn X.K (.ref f) = true)
    (hb : Binds X.K fd ps []) (ha : PA X (e :: es) (RdA g fs W)) (hdb : (x == ("__debug__" : Str)) = false) (he : starEach (e :: es) X.env = (false, eval e X.env) :: starEach es X.env) (hpl : (backTo pos (starEach es X.env)).any (·.1) = false) :
    PE X (.Call (.Name x p) (e :: es) [] pos) (RdE g (fun env => bnd (fs env) fun xs => if xs.length = n then fx xs else stuck) W) := by
  refine ⟨fun pins s σ H Q I ⟨ρ, ω, env, m, hev, hmm, hp⟩ => ?_⟩
  refine wpAny_Call_Name_kw (ld_glob I hg hm ?_ hdb)
  have h1 : RdA g fs W σ H (fun vs H1 => spD g n fx vs H1 Q (WE W σ)) := ⟨ρ, ω, env, m, hev, hmm, hp.bind fun ρ1 H1 ds vs m1 x1 hl hm1 hp1 => by
    by_cases q : ds.length = n
    · rw [if_pos q] at hp1
      exact ⟨by rw [← hl.length]; exact q, ρ1, ω, m1, ds, hm1, hl, hp1⟩
    · rw [if_neg q] at hp1; exact hp1.elim⟩
  refine PySem.W.callWith_K (h₀ := X.base) I.ok.mod.kin hk (thn (ha.run pos pins s σ H _ I h1) fun us s1 ⟨vs, H1, I1, r, q⟩ => ⟨I1.kIn, ?_⟩) he hpl
  have hl : (us ++ []).length = ps.length := by rw [List.append_nil, ← r.length, hn]; exact q.1
  have b := hb s1 us I1.kIn hl
  rw [List.append_nil] at b
  exact callG F hr hgd (passAt tk σ) I1 b r q
theorem snd_call0 (F : FnG X.prog X.w X.K X.mg X.base gd k f fd ps (spD g 0 fx)) (hn : ps.length = 0) (hr : Room k X.A) (hgd : gd = true → X.A.guards = some []) (tk : Takes X W) (hg : Gl X x) (hm : X.mg x = some (.ref f)) (hk : PySem.W.keepIn X.K (.ref f) = true)
    (hb : Binds X.K fd ps []) (hdb : (x == ("__debug__" : Str)) = false) :
    PE X (.Call (.Name x p) [] [] pos) (RdE g (fun env => bnd (ret ([] : List D)) fun xs => if xs.length = 0 then fx xs else stuck) W) := by
  refine ⟨fun pins s σ H Q I ⟨ρ, ω, env, m, hev, hmm, hp⟩ => ?_⟩
  refine wpAny_Call_Name_kw (ld_glob I hg hm ?_ hdb)
  refine PySem.W.callWith_K0 I.kIn hk ?_
  have b := hb s [] I.kIn (by rw [List.append_nil]; exact hn.symm)
  rw [List.append_nil] at b
  exact callG F hr hgd (passAt tk σ) I b .nil ⟨rfl, ρ, ω, m, [], hmm, True.intro, hp⟩
/-! ### keywords -/
theorem permL_V {c : RC} {H : Hp} : ∀ {is : List Nat} {ds ds' : List D} {vs : List V}, DnL c H ds vs → permL is ds = some ds' → ∃ vs', permL is vs = some vs' ∧ DnL c H ds' vs'
  | [], _, _, _, _, e => by cases e; exact ⟨[], rfl, True.intro⟩
  | i :: is, ds, ds', vs, l, e => by
    unfold permL at e
    cases q1 : ds[i]? with
    | none => rw [q1] at e; cases e
    | some x =>
      cases q2 : permL is ds with
      | none => rw [q1, q2] at e; cases e
      | some ys =>
        rw [q1, q2] at e; cases e
        obtain ⟨v, e1, h1⟩ := l.get q1
        obtain ⟨vs', e2, h2⟩ := permL_V l q2
        exact ⟨v :: vs', by unfold permL; rw [e1, e2], h1, h2⟩
theorem permL_R : ∀ {is : List Nat} {vs vs' : List V} {us : List Value}, Vals vs us → permL is vs = some vs' → ∃ us', permL is us = some us' ∧ Vals vs' us'
  | [], _, _, _, _, e => by cases e; exact ⟨[], rfl, .nil⟩
  | i :: is, vs, vs', us, l, e => by
    unfold permL at e
    cases q1 : vs[i]? with
    | none => rw [q1] at e; cases e
    | some x =>
      cases q2 : permL is vs with
      | none => rw [q1, q2] at e; cases e
      | some ys =>
        rw [q1, q2] at e; cases e
        obtain ⟨v, e1, h1⟩ := l.get q1
        obtain ⟨vs', e2, h2⟩ := permL_R l q2
        exact ⟨v :: vs', by unfold permL; rw [e1, e2], .cons h1 h2⟩
/-- positional values, then those of the names ks, bound in the parameters' order by perm -/
def KwB (K : PySem.W.Frag) (fd : FuncData) (ps ks : List Str) (np : Nat) (perm : List Nat) : Prop :=
  ∀ (st : Shared) (us ws zs : List Value), K.In st.heap → us.length = np → ws.length = ks.length → permL perm (us ++ ws) = some zs → BindsTo st fd ⟨us, ks.zip ws⟩ (ps.zip zs)
theorem snd_kcons {e : Expr} {nm : Option Str} {kp : Pos} {kws : List Keyword} {f : Env → M D} (ha : PE X e (RdE g f W)) (hr : PK X kws (RdA g fs W)) :
    PK X (⟨nm, e, kp⟩ :: kws) (RdA g (fun env => bnd (f env) fun x => bnd (fs env) fun xs => ret (x :: xs)) W) :=
  ⟨fun ps pins s σ H Q I ⟨ρ, ω, env, m, he, hm, hp⟩ => (pk_cons ha hr).run ps pins s σ H Q I ⟨ρ, ω, env, m, he, hm, hp.bind fun ρ1 H1 dx x m1 x1 hx hm1 hp1 =>
    ⟨ρ1, ω, env, m1, he.later hm x1, hm1, hp1.bind fun ρ2 H2 dy y m2 x2 hy hm2 hp2 => hp2.ret (b := x :: y) ⟨hx.mono x2, hy⟩ hm2⟩⟩⟩
theorem snd_knil : PK X [] (RdA g (fun _ => ret []) W) := ⟨fun ps pins s σ H Q I ⟨ρ, ω, env, m, he, hm, hp⟩ => pk_nil.run ps pins s σ H Q I (hp.ret (b := ([] : List V)) True.intro hm)⟩
theorem fin_K {ks : List Str} {perm : List Nat} {np nk : Nat} (F : FnG X.prog X.w X.K X.mg X.base gd k f fd ps (spD g n fx)) (hr : Room k X.A) (hgd : gd = true → X.A.guards = some []) (tk : Takes X W)
    (hb : KwB X.K fd ps ks np perm) (hkl : ks.length = nk) {us ws : List Value} {vs zs : List V} {s2 : Shared} {H2 : Hp} (I2 : L2.Inv X pins σ H2 s2) (r1 : Vals vs us) (r2 : Vals zs ws)
    (q : vs.length = np ∧ zs.length = nk ∧ ∃ w2, permL perm (vs ++ zs) = some w2 ∧ spD g n fx w2 H2 Q (WE W σ)) :
    wpAny (model X.prog X.w) X.A (call (.ref f) us (ks.zip ws)) (EP X pins σ Q) X.xe s2 := by
  obtain ⟨l1, l2, w2, e2, q⟩ := q
  obtain ⟨u2, e3, r3⟩ := permL_R (r1.append r2) e2
  exact callG F hr hgd (passAt tk σ) I2 (hb s2 us ws u2 I2.kIn (by rw [← r1.length]; exact l1) (by rw [← r2.length, l2]; exact hkl.symm) e3) r3 q
def kX (perm : List Nat) (np nk n : Nat) (fx : List D → M D) (xs ys : List D) : M D := match permL perm (xs ++ ys) with
  | some zs => if xs.length = np ∧ ys.length = nk ∧ zs.length = n then fx zs else stuck
  | none => stuck
theorem kX_sp {perm : List Nat} {np nk : Nat} {ρ ω : List Addr} {H2 : Hp} {m2 : Mem} {ds ds2 : List D} {vs zs : List V} {Ex : XK} (hl : DnL (g.at ρ ω) H2 ds vs) (hl2 : DnL (g.at ρ ω) H2 ds2 zs) (hm2 : MemR (g.at ρ ω) H2 m2)
    (hp2 : PostG Dn (g.at ρ ω) H2 (kX perm np nk n fx ds ds2 m2) Q Ex) : vs.length = np ∧ zs.length = nk ∧ ∃ ws, permL perm (vs ++ zs) = some ws ∧ spD g n fx ws H2 Q Ex := by
  have l3 := hl.append hl2
  unfold kX at hp2
  cases q : permL perm (ds ++ ds2) with
  | none => rw [q] at hp2; exact hp2.elim
  | some qs =>
    rw [q] at hp2
    dsimp only at hp2
    by_cases z : ds.length = np ∧ ds2.length = nk ∧ qs.length = n
    · rw [if_pos z] at hp2
      obtain ⟨ws, e1, l4⟩ := permL_V l3 q
      exact ⟨by rw [← hl.length]; exact z.1, by rw [← hl2.length]; exact z.2.1, ws, e1, by rw [← l4.length]; exact z.2.2, ρ, ω, m2, qs, hm2, l4, hp2⟩
    · rw [if_neg z] at hp2; exact hp2.elim
theorem snd_callK {ks : List Str} {kws : List Keyword} {fk : Env → M (List D)} {perm : List Nat} (F : FnG X.prog X.w X.K X.mg X.base gd k f fd ps (spD g n fx)) (hr : Room k X.A) (hgd : gd = true → X.A.guards = some []) (tk : Takes X W) (hg : Gl X x) (hm : X.mg x = some (.ref f)) (hk : PySem.W.keepIn X.K (.ref f) = true)
    (hb : KwB X.K fd ps ks (e :: es).length perm) (ha : PA X (e :: es) (RdA g fs W)) (hkw : PK X kws (RdA g fk W)) (hall : (backToKw pos (keywordEach kws X.env)).all (·.1.isSome) = true) (hks : (backToKw pos (keywordEach kws X.env)).filterMap (·.1) = ks) (hkl : ks.length = kws.length)
    (hdb : (x == ("__debug__" : Str)) = false) (he : starEach (e :: es) X.env = (false, eval e X.env) :: starEach es X.env) (hpl : ((backTo pos (starEach (e :: es) X.env)).any (·.1) || (backToKw pos (keywordEach kws X.env)).any (·.1.isNone)) = false) :
    PE X (.Call (.Name x p) (e :: es) kws pos) (RdE g (fun env => bnd (fs env) fun xs => bnd (fk env) fun ys => kX perm (e :: es).length kws.length n fx xs ys) W) := by
  refine ⟨fun pins s σ H Q I ⟨ρ, ω, env, m, hev, hmm, hp⟩ => ?_⟩
  refine wpAny_Call_Name_kw (ld_glob I hg hm ?_ hdb)
  have h1 : RdA g fs W σ H (fun vs H1 => RdA g fk W σ H1 fun zs H2 => vs.length = (e :: es).length ∧ zs.length = kws.length ∧ ∃ ws, permL perm (vs ++ zs) = some ws ∧ spD g n fx ws H2 Q (WE W σ)) := ⟨ρ, ω, env, m, hev, hmm, hp.bind fun ρ1 H1 ds vs m1 x1 hl hm1 hp1 =>
    ⟨ρ1, ω, env, m1, hev.later hmm x1, hm1, hp1.bind fun ρ2 H2 ds2 zs m2 x2 hl2 hm2 hp2 => kX_sp (DnL.mono x2 ds vs hl) hl2 hm2 hp2⟩⟩
  refine PySem.W.callWith_KW (h₀ := X.base) I.ok.mod.kin hk hall (thn (ha.run pos pins s σ H _ I h1) fun us s1 ⟨vs, H1, I1, r1, q1⟩ => ?_) hpl he
  refine thn (hkw.run pos pins s1 σ H1 _ I1 q1) fun ws s2 ⟨zs, H2, I2, r2, q2⟩ => ⟨I2.kIn, ?_⟩
  rw [hks]
  exact fin_K F hr hgd tk hb hkl I2 r1 r2 q2
theorem snd_callK0 {ks : List Str} {kws : List Keyword} {fk : Env → M (List D)} {perm : List Nat} (F : FnG X.prog X.w X.K X.mg X.base gd k f fd ps (spD g n fx)) (hr : Room k X.A) (hgd : gd = true → X.A.guards = some []) (tk : Takes X W) (hg : Gl X x) (hm : X.mg x = some (.ref f)) (hk : PySem.W.keepIn X.K (.ref f) = true)
    (hb : KwB X.K fd ps ks 0 perm) (hkw : PK X kws (RdA g fk W)) (hall : (backToKw pos (keywordEach kws X.env)).all (·.1.isSome) = true) (hks : (backToKw pos (keywordEach kws X.env)).filterMap (·.1) = ks) (hkl : ks.length = kws.length)
    (hdb : (x == ("__debug__" : Str)) = false) (hpl : ((backTo pos (starEach [] X.env)).any (·.1) || (backToKw pos (keywordEach kws X.env)).any (·.1.isNone)) = false) :
    PE X (.Call (.Name x p) [] kws pos) (RdE g (fun env => bnd (ret ([] : List D)) fun xs => bnd (fk env) fun ys => kX perm 0 kws.length n fx xs ys) W) := by
  refine ⟨fun pins s σ H Q I ⟨ρ, ω, env, m, hev, hmm, hp⟩ => ?_⟩
  refine wpAny_Call_Name_kw (ld_glob I hg hm ?_ hdb)
  have h1 : RdA g fk W σ H fun zs H2 => (([] : List V).length = 0 ∧ zs.length = kws.length ∧ ∃ ws, permL perm ([] ++ zs) = some ws ∧ spD g n fx ws H2 Q (WE W σ)) :=
    ⟨ρ, ω, env, m, hev, hmm, PostG.bind (r := fk env m) (f := fun ys => kX perm 0 kws.length n fx [] ys) (by exact hp) fun ρ2 H2 ds2 zs m2 x2 hl2 hm2 hp2 => kX_sp (ds := []) (vs := []) True.intro hl2 hm2 hp2⟩
  refine PySem.W.callWith_KW0 (h₀ := X.base) I.ok.mod.kin hk hall ?_ hpl
  refine thn (hkw.run pos pins s σ H _ I h1) fun ws s2 ⟨zs, H2, I2, r2, q⟩ => ⟨I2.kIn, ?_⟩
  rw [hks]
  exact fin_K (vs := []) F hr hgd tk hb hkl I2 .nil r2 q
end
end Ev
end
section
set_option Elab.async false
set_option linter.all false
set_option maxRecDepth 100000
set_option maxHeartbeats 2000000
/-! Ev: methods of built-in types, mutable lists. -/
namespace Ev
open PySem PySem.Spec PyProof.Rows L2
abbrev DnVs (c : RC) (H : Hp) (ds : List D) (vs : List V) : Prop := Paired (fun d v => DnV c H d v) ds vs
def smN : Sm → Str
  | .split => "split" | .join => "join" | .sindex => "index" | _ => "split"
def smI : Sm → String
  | .split => "str.split" | .join => "str.join" | .sindex => "str.index" | _ => "str.split"
def rSm (g : RC) (s : Sm) : V → List V → Hp → VK → Prop := fun x vs H Q => ∃ ρ ω m a ds d, MemR (g.at ρ ω) H m ∧ x = .str a ∧ DnVs (g.at ρ ω) H ds vs ∧ smD s a ds = some d ∧ Fin g ρ ω H m d Q
theorem strs_V (c : RC) (H : Hp) : ∀ ys : List Str, DnL c H (ys.map D.str) (ys.map V.str)
  | [] => True.intro
  | _ :: ys => ⟨rfl, strs_V c H ys⟩
section
variable {X : Cx} {g : RC} {W : WX}
theorem mt_sm (hK : X.K = g.K) (s : Sm) : MtR X (smI s) (rSm g s) := by
  intro pins st σ H x xs v us Q I rx rs ⟨ρ, ω, m, a, ds, d, hm, hx, hd, h, q⟩
  unfold smD at h
  split at h
  · rename_i b
    split at h
    · rename_i k
      cases h
      cases hd with
      | cons h1 h2 =>
        cases h2
        exact mt_split pins st σ H x _ v us Q I rx rs ⟨a, b, hx, by rw [show _ = V.str b from h1], k.1, by rw [← line_eq]; exact k.2, fun p n => q.lst hm n (strs_V _ _ _)⟩
    · cases h
  · obtain ⟨ys, e1, e2⟩ := Option.bind_eq_some_iff.mp h
    split at e2
    · rename_i zs k
      cases e2
      cases hd with
      | cons h1 h2 =>
        cases h2
        obtain ⟨p, vs, rfl, e, l⟩ := h1
        have ev := allStrs_V l e1
        exact mt_join pins st σ H x _ v us Q I rx rs ⟨a, p, ys, hx, rfl, .inl (SqL.of (by rw [← ev]; exact e)), k, q.ret hm rfl⟩
    · cases e2
  · rename_i b
    split at h
    · rename_i i r k
      cases h
      cases hd with
      | cons h1 h2 =>
        cases h2
        exact mt_sindex pins st σ H x _ v us Q I rx rs ⟨a, b, i, r, hx, by rw [show _ = V.str b from h1], k, q.ret hm rfl⟩
    · cases h
  · cases h
theorem slot_sm (s : Sm) : Slot "str" (smN s) (smI s) := by
  cases s <;> first | exact PySem.F.slot_str_split | exact PySem.F.slot_str_join | exact PySem.F.slot_str_index
theorem type_sm (s : Sm) : typeOf (.builtin (smI s)) = pure (.type "method_descriptor") := by
  cases s <;> first | exact PySem.F.type_str_split | exact PySem.F.type_str_join | exact PySem.F.type_str_index
variable {e : Expr} {es : List Expr} {o : Expr} {fo fe f : Env → M D} {fs : Env → M (List D)} {apos cpos : Pos}
theorem snd_meth (hK : X.K = g.K) (s : Sm) (ho : PE X o (RdE g fo W)) (ha : PA X (e :: es) (RdAW g fs W))
    (hbase : attributeBase o (smN s) X.env (eval o X.env) = eval o X.env)
    (hfew : ((backTo cpos (starEach (e :: es) X.env)).all (fun x => !x.1) && (backToKw cpos (keywordEach [] X.env)).all (fun x => x.1.isSome)
      && decide ((e :: es).length + ([] : List Keyword).length + (if ([] : List Keyword).isEmpty then 0 else 1) < 30)) = true)
    (hline : (apos.endLine == cpos.line) = true) (hs : starEach (e :: es) X.env = (false, eval e X.env) :: starEach es X.env) (hplain : (backTo cpos (starEach es X.env)).any (·.1) = false) :
    PE X (.Call (.Attribute o (smN s) apos) (e :: es) [] cpos) (RdE g (fun env => bnd (fo env) fun x => match x with | .str z => bnd (fs env) fun xs => dn xs (smD s z) | _ => stuck) W) :=
  PE.imp (pe_bm PySem.F.plainAttrs_str (slot_sm s) (type_sm s) (mt_sm hK s) ho ha hbase hfew hline hs hplain) fun σ H Q ⟨ρ, ω, env, m, he, hm, hp⟩ => ⟨ρ, ω, env, m, he, hm, hp.bind fun ρ1 H1 dx x m1 x1 hx hm1 hp1 => by
    cases dx with
    | str a =>
      rw [show x = V.str a from hx]
      exact ⟨rfl, ρ1, ω, env, m1, he.later hm x1, hm1, hp1.bind fun ρ2 H2 dl l m2 x2 hy hm2 hp2 => by
        obtain ⟨ds', d, h1, h2, h3⟩ := dn_fin hm2 hy hp2
        exact ⟨ρ2, ω, m2, a, _, d, hm2, rfl, h1, h2, h3⟩⟩
    | _ => exact hp1.elim⟩
end
end Ev
end
section
set_option Elab.async false
set_option linter.all false
set_option maxRecDepth 100000
set_option maxHeartbeats 2000000
/-! Ev: mutable objects: made, changed. -/
namespace Ev
open PySem PySem.Spec PyProof.Rows L2
/-! ### other places, the same data -/
structure Turn (c c' : RC) : Prop where
  K : c'.K = c.K
  mg : c'.mg = c.mg
  T : c'.T = c.T
  ok : ∀ a, c.ok a → c'.ok a
  ρ : ∀ (l : Nat) (a : Addr), c.ρ[l]? = some a → c'.ρ[l]? = some a
mutual
theorem Dn.turn {c c' : RC} {H : Hp} (t : Turn c c') : ∀ (d : D) (v : V), Dn c H d v → Dn c' H d v
  | .non, _, h => h
  | .bl _, _, h => h
  | .int _, _, h => h
  | .str _, _, h => h
  | .tup ds, _, ⟨a, vs, e, k, r, l⟩ => ⟨a, vs, e, t.ok a k, r, DnL.turn t ds vs l⟩
  | .lst ds, _, ⟨a, vs, e, k, r, l⟩ => ⟨a, vs, e, t.ok a k, r, DnL.turn t ds vs l⟩
  | .frz ds, _, ⟨a, vs, e, k, l⟩ => by
    refine ⟨a, vs, e, ?_, DnL.turn t ds vs l⟩
    rcases k with ⟨k, r⟩ | k
    · exact .inl ⟨t.ok a k, r⟩
    · exact .inr (by rw [t.K]; exact k)
  | .dK kvs, _, ⟨a, ws, e, k, r, l⟩ => ⟨a, ws, e, t.ok a k, r, DnK.turn t kvs ws l⟩
  | .dT kvs, _, ⟨a, ws, e, k, r, l⟩ => ⟨a, ws, e, t.ok a k, r, DnT.turn t kvs ws l⟩
  | .ins C fs, _, ⟨a, A, dx, ws, e, k, g, r, l⟩ => ⟨a, A, dx, ws, e, t.ok a k, by rw [t.mg]; exact g, r, DnF.turn t fs ws l⟩
  | .exc C fs, _, ⟨a, A, d, e, k, g, r, l⟩ => by
    refine ⟨a, A, d, e, t.ok a k, by rw [t.mg]; exact g, r, ?_⟩
    rcases l with l | ⟨dd, ws, e2, k2, r2, l⟩
    · exact .inl l
    · exact .inr ⟨dd, ws, e2, t.ok dd k2, r2, DnF.turn t fs ws l⟩
  | .fn _, _, h => by obtain ⟨u, e, r⟩ := h; exact ⟨u, by rw [t.mg]; exact e, r⟩
  | .loc l, _, ⟨a, e, h⟩ => ⟨a, t.ρ l a e, h⟩
theorem DnL.turn {c c' : RC} {H : Hp} (t : Turn c c') : ∀ (ds : List D) (vs : List V), DnL c H ds vs → DnL c' H ds vs
  | [], [], _ => True.intro
  | d :: ds, v :: vs, ⟨h, k⟩ => ⟨Dn.turn t d v h, DnL.turn t ds vs k⟩
  | [], _ :: _, h => h
  | _ :: _, [], h => h
theorem DnK.turn {c c' : RC} {H : Hp} (t : Turn c c') : ∀ (ds : List (Key × D)) (vs : List (Key × V)), DnK c H ds vs → DnK c' H ds vs
  | [], [], _ => True.intro
  | (_, d) :: ds, (_, v) :: vs, ⟨e, h, k⟩ => ⟨e, Dn.turn t d v h, DnK.turn t ds vs k⟩
  | [], _ :: _, h => h
  | _ :: _, [], h => h
theorem DnT.turn {c c' : RC} {H : Hp} (t : Turn c c') : ∀ (ds : List (List Key × D)) (vs : List (List Key × V)), DnT c H ds vs → DnT c' H ds vs
  | [], [], _ => True.intro
  | (_, d) :: ds, (_, v) :: vs, ⟨e, h, k⟩ => ⟨e, Dn.turn t d v h, DnT.turn t ds vs k⟩
  | [], _ :: _, h => h
  | _ :: _, [], h => h
theorem DnF.turn {c c' : RC} {H : Hp} (t : Turn c c') : ∀ (ds : List (Str × D)) (vs : List (Str × V)), DnF c H ds vs → DnF c' H ds vs
  | [], [], _ => True.intro
  | (_, d) :: ds, (_, v) :: vs, ⟨e, h, k⟩ => ⟨e, Dn.turn t d v h, DnF.turn t ds vs k⟩
  | [], _ :: _, h => h
  | _ :: _, [], h => h
end
theorem MoR.turn {c c' : RC} {H : Hp} (t : Turn c c') {a : Addr} {o : MO} (h : MoR c H a o) : MoR c' H a o := by
  cases o with
  | lst ds => obtain ⟨vs, e, l⟩ := h; exact ⟨vs, e, DnL.turn t ds vs l⟩
  | dK kvs => obtain ⟨ws, e, l⟩ := h; exact ⟨ws, e, DnK.turn t kvs ws l⟩
  | ins C fs => obtain ⟨A, dx, ws, g, e, l⟩ := h; exact ⟨A, dx, ws, by rw [t.mg]; exact g, e, DnF.turn t fs ws l⟩
/-- what was held alone becomes a place -/
theorem turn_loc {g : RC} {ρ ω : List Addr} {a : Addr} (n : a ∉ ω) : Turn (g.at ρ (a :: ω)) (g.at (ρ ++ [a]) ω) where
  K := rfl
  mg := rfl
  T := rfl
  ok := fun b k => ⟨fun z => by
    rcases List.mem_append.mp z with z | z
    · exact k.r z
    · exact k.w (List.mem_cons.mpr (.inl (List.mem_singleton.mp z))), fun z => k.w (List.mem_cons_of_mem _ z)⟩
  ρ := fun l b e => by rw [List.getElem?_append_left (List.getElem?_eq_some_iff.mp e).1]; exact e
def moD : MO → D
  | .lst xs => .lst xs
  | .dK xs => .dK xs
  | .ins C fs => .ins C fs
theorem MemR.loc {g : RC} {ρ ω : List Addr} {H : Hp} {m : Mem} {a : Addr} (h : MemR (g.at ρ (a :: ω)) H m) (n : a ∉ ω) {o : MO} (ho : MoR (g.at ρ (a :: ω)) H a o) : MemR (g.at (ρ ++ [a]) ω) H (m ++ [o]) := by
  have t := turn_loc (g := g) (ρ := ρ) n
  have na : a ∉ ρ := h.dj a List.mem_cons_self
  have hl : ρ.length = m.length := h.len
  refine ⟨by rw [List.length_append, List.length_append]; show ρ.length + 1 = m.length + 1; rw [hl], fun i b u e1 e2 => ?_, ?_, fun b hb => h.own b (List.mem_cons_of_mem _ hb), fun b hb z => ?_, h.tabs⟩
  · have e1 : (ρ ++ [a])[i]? = some b := e1
    by_cases hi : i < ρ.length
    · rw [List.getElem?_append_left hi] at e1
      rw [List.getElem?_append_left (by rw [← hl]; exact hi)] at e2
      exact (h.at_ i b u e1 e2).turn t
    · have hi2 : i = ρ.length := by
        have := (List.getElem?_eq_some_iff.mp e1).1
        rw [List.length_append, List.length_singleton] at this
        omega
      subst hi2
      rw [List.getElem?_append_right (Nat.le_refl _), Nat.sub_self] at e1
      rw [hl, List.getElem?_append_right (Nat.le_refl _), Nat.sub_self] at e2
      cases e1; cases e2
      exact ho.turn t
  · refine List.nodup_append.mpr ⟨h.nd, List.pairwise_singleton _ _, fun x hx y hy => ?_⟩
    rw [List.mem_singleton.mp hy]
    exact fun e => na (e ▸ hx)
  · rcases List.mem_append.mp z with z | z
    · exact h.dj b (List.mem_cons_of_mem _ hb) z
    · rw [List.mem_singleton.mp z] at hb
      exact n hb
theorem Xt.loc {c : RC} {H H' : Hp} {ρ' : List Addr} {a : Addr} (x : Xt c H ρ' H') (n : Fr0 H a) : Xt c H (ρ' ++ [a]) H' := by
  obtain ⟨t, e⟩ := x.pre
  refine ⟨⟨t ++ [a], by rw [e, List.append_assoc]⟩, fun b hb => ?_, x.keep, x.there⟩
  rcases List.mem_append.mp hb with z | z
  · exact x.new b z
  · rw [List.mem_singleton.mp z]; exact .inr n
theorem nodup_inj {α : Type} {l : List α} (h : l.Nodup) {i j : Nat} (hi : i < l.length) (hj : j < l.length) (e : l[i] = l[j]) : i = j := by
  have p := List.pairwise_iff_getElem.mp h
  rcases Nat.lt_trichotomy i j with q | q | q
  · exact absurd e (p i j hi hj q)
  · exact q
  · exact absurd e.symm (p j i hj hi q)
theorem Xt.put {c : RC} {H : Hp} {a : Addr} {u : HO} (ha : a ∈ c.ρ) (tu : ∀ ps, u ≠ .tbl ps) : Xt c H c.ρ (upd H a u) := ⟨⟨[], by simp⟩, fun b hb => .inl hb, fun b w eb nb _ => by have n : b ≠ a := (fun z => by subst z; exact nb ha); rw [upd_ne n]; exact eb, fun b w eb t => by
    by_cases z : b = a
    · subst z; exact ⟨u, upd_same, tu⟩
    · exact ⟨w, by rw [upd_ne z]; exact eb, t⟩⟩
/-- a mutable object is changed -/
theorem MemR.put {c : RC} {H : Hp} {m : Mem} (h : MemR c H m) {l : Nat} {a : Addr} {o u : HO} {mo : MO} (e : c.ρ[l]? = some a) (ea : H a = some o) (to : ∀ ps, o ≠ .tbl ps) (hx : ∀ c q, o ≠ LamX.CodeO c q) (tu : ∀ ps, u ≠ .tbl ps) (hr : MoR c (upd H a u) a mo) : MemR c (upd H a u) (m.set l mo) := by
  have hl : l < m.length := by rw [← h.len]; exact (List.getElem?_eq_some_iff.mp e).1
  have ha : a ∈ c.ρ := List.mem_of_getElem? e
  have x : Xt c H c.ρ (upd H a u) := Xt.put ha tu
  refine ⟨by rw [List.length_set]; exact h.len, fun i b w e1 e2 => ?_, h.nd, fun b hb => ?_, h.dj, tabs_upd ea to hx h.tabs⟩
  · by_cases hi : l = i
    · subst hi
      rw [List.getElem?_set_self hl] at e2
      rw [e] at e1
      cases e1; cases e2
      exact hr
    · rw [List.getElem?_set_ne hi] at e2
      have nb : b ≠ a := fun z => by
        subst z
        obtain ⟨h1, h2⟩ := List.getElem?_eq_some_iff.mp e
        obtain ⟨h3, h4⟩ := List.getElem?_eq_some_iff.mp e1
        exact hi (nodup_inj h.nd h1 h3 (h2.trans h4.symm))
      exact MoR.mono (c := c) x (fun w eb => by rw [upd_ne nb]; exact eb) (h.at_ i b w e1 e2)
  · obtain ⟨w, e1, t⟩ := h.own b hb
    have nb : b ≠ a := fun z => h.dj b hb (z ▸ ha)
    exact ⟨w, by rw [upd_ne nb]; exact e1, t⟩
section
variable {X : Cx} {g : RC} {W : WX} {e o i : Expr} {fe fo fi : Env → M D} {apos cpos : Pos}
theorem newL_post {ρ ω : List Addr} {H : Hp} {m : Mem} {r : Res D} {Q : VK} {Ex : XK} (hm : MemR (g.at ρ ω) H m) (hp : PostG Dn (g.at ρ ω) H (r.bind newL) Q Ex) : PostF (g.at ρ ω) H r Q Ex := by
  cases r with
  | bad => exact hp.elim
  | exc C fs mm => exact hp
  | ok d m1 =>
    intro ρ' H' a x n ho hm1
    have na : a ∉ ω := fun z => by obtain ⟨o, e, t⟩ := hm.own a z; exact fr_no n e t
    have fin : ∀ mo : MO, newL d m1 = .ok (.loc m1.length) (m1 ++ [mo]) → MoR (g.at ρ' (a :: ω)) H' a mo → Q (.ref a) H' := fun mo e hmo => by
      dsimp only [Res.bind] at hp
      rw [e] at hp
      exact hp (ρ' ++ [a]) H' (.ref a) (x.loc n) ⟨a, by
        show (ρ' ++ [a])[m1.length]? = some a
        rw [← (show ρ'.length = m1.length from hm1.len), List.getElem?_append_right (Nat.le_refl _), Nat.sub_self]; rfl, rfl⟩ (hm1.loc na hmo)
    cases d with
    | lst ds => exact fin (.lst ds) rfl ho
    | dK ds => exact fin (.dK ds) rfl ho
    | _ => exact hp.elim
theorem snd_newL (h : PE X e (RdF g fe W)) : PE X e (RdE g (fun env => bnd (fe env) newL) W) := PE.imp h fun σ H Q ⟨ρ, ω, env, m, he, hm, hp⟩ => ⟨ρ, ω, env, m, he, hm, newL_post (r := fe env m) hm hp⟩
theorem chkL_go {α : Type} {x : D} {k : M α} {m : Mem} {r : Res α} (e : chkL x k m = r) : (∃ l xs, x = .loc l ∧ m[l]? = some (.lst xs) ∧ k m = r) ∨ r = .bad := by
  cases x with
  | loc l =>
    simp only [chkL] at e
    cases q : m[l]? with
    | none => rw [q] at e; exact .inr e.symm
    | some o =>
      rw [q] at e
      cases o with
      | lst xs => exact .inl ⟨l, xs, rfl, q, e⟩
      | _ => exact .inr e.symm
  | _ => exact .inr e.symm
theorem chkL_at {α β : Type} {R : Rel α β} {c : RC} {H : Hp} {x : D} {v : V} {k : M α} {m : Mem} {Q : β → Hp → Prop} {Ex : XK} (hm : MemR c H m) (hx : Dn c H x v) (h : PostG R c H (chkL x k m) Q Ex) :
    ∃ l a xs vs, x = .loc l ∧ v = .ref a ∧ c.ρ[l]? = some a ∧ m[l]? = some (.lst xs) ∧ H a = some (.lst vs) ∧ DnL c H xs vs ∧ PostG R c H (k m) Q Ex := by
  rcases chkL_go (x := x) (k := k) (m := m) rfl with ⟨l, xs, rfl, q, e⟩ | e
  · obtain ⟨a, e1, rfl⟩ := hx
    obtain ⟨vs, h1, h2⟩ := hm.at_ l a _ e1 q
    rw [← e] at h
    exact ⟨l, a, xs, vs, rfl, rfl, e1, q, h1, h2, h⟩
  · rw [e] at h; exact h.elim
theorem ixN_seq {n : Nat} {i : Int} {k : Nat} (h : ixN n i = some k) : seqIndex? i n = some k := by
  unfold ixN at h
  unfold seqIndex?
  split at h
  · split at h
    · cases h
      rename_i h1 h2
      simp only [if_neg (Int.not_lt.mpr h1)]
      rw [if_pos (by simp [h1, h2])]
    · cases h
  · split at h
    · cases h
      rename_i h1 h2
      simp only [if_pos (Int.not_le.mp h1)]
      rw [if_pos (by simp; omega)]
    · cases h
theorem pop_fin {ρ ω : List Addr} {H : Hp} {m : Mem} {l : Nat} {a : Addr} {dy : D} {Q : VK} {Ex : XK} (hm : MemR (g.at ρ ω) H m) (e : ρ[l]? = some a) (h : PostG Dn (g.at ρ ω) H (popM (.loc l) dy m) Q Ex) :
    ∃ i vs k y, dy = .int i ∧ H a = some (.lst vs) ∧ i.natAbs ≤ 1000000000 ∧ ixN vs.length i = some k ∧ vs[k]? = some y ∧ Q y (upd H a (.lst (vs.eraseIdx k))) := by
  unfold popM at h
  split at h
  · rename_i l' i e1
    cases e1
    split at h
    · rename_i xs q
      obtain ⟨vs, h1, h2⟩ := hm.at_ l a _ e q
      split at h
      · rename_i k q2
        split at h
        · rename_i d q3
          obtain ⟨y, e3, hy⟩ := h2.get q3
          split at h
          · rename_i hi
            refine ⟨i, vs, k, y, rfl, h1, hi, by rw [← h2.length]; exact q2, e3, h ρ _ y (Xt.put (u := .lst (vs.eraseIdx k)) (List.mem_of_getElem? e) (fun ps z => nomatch z)) (Dn.mono (c := g.at ρ ω) (Xt.put (u := .lst (vs.eraseIdx k)) (List.mem_of_getElem? e) (fun ps z => nomatch z)) _ _ hy) ?_⟩
            exact hm.put e h1 (fun ps z => nomatch z) lst_code (fun ps z => nomatch z) ⟨_, upd_same, DnL.mono (c := g.at ρ ω) (Xt.put (u := .lst (vs.eraseIdx k)) (List.mem_of_getElem? e) (fun ps z => nomatch z)) _ _ (h2.erase k)⟩
          · exact h.elim
        · exact h.elim
      · exact h.elim
    · exact h.elim
  · exact h.elim
theorem snd_popL (ho : PE X o (RdE g fo W)) (hi : PE X i (RdE g fi W))
    (hbase : attributeBase o "pop" X.env (eval o X.env) = eval o X.env)
    (hfew : ((backTo cpos (starEach [i] X.env)).all (fun x => !x.1) && (backToKw cpos (keywordEach [] X.env)).all (fun x => x.1.isSome)
      && decide (([i] : List Expr).length + ([] : List Keyword).length + (if ([] : List Keyword).isEmpty then 0 else 1) < 30)) = true)
    (hline : (apos.endLine == cpos.line) = true) (hs : starEach [i] X.env = (false, eval i X.env) :: starEach [] X.env) (hplain : (backTo cpos (starEach [] X.env)).any (·.1) = false) :
    PE X (.Call (.Attribute o "pop" apos) [i] [] cpos) (RdE g (fun env => bnd (fo env) fun x => chkL x (bnd (fi env) fun y => popM x y)) W) :=
  PE.imp (pe_bm PySem.F.plainAttrs_list PySem.F.slot_list_pop PySem.F.type_list_pop mt_popAt ho (pa_cons hi pa_nil hs) hbase hfew hline hs hplain) fun σ H Q ⟨ρ, ω, env, m, he, hm, hp⟩ => ⟨ρ, ω, env, m, he, hm, hp.bind fun ρ1 H1 dx x m1 x1 hx hm1 hp1 => by
    obtain ⟨l, a, xs, vs, rfl, rfl, e1, q, h1, h2, hp1⟩ := chkL_at hm1 hx hp1
    refine ⟨.inl ⟨rfl, _, SqL.of h1⟩, ρ1, ω, env, m1, he.later hm x1, hm1, hp1.bind fun ρ2 H2 dy y m2 x2 hy hm2 hp2 => ?_⟩
    obtain ⟨t, et⟩ := x2.pre
    have e2 : ρ2[l]? = some a := by rw [et, List.getElem?_append_left (List.getElem?_eq_some_iff.mp e1).1]; exact e1
    obtain ⟨j, vs2, k, z, rfl, k1, k2, k3, k4, k5⟩ := pop_fin hm2 e2 hp2
    exact ⟨a, vs2, j, k, z, rfl, by rw [show y = V.int j from hy], k1, by omega, by omega, ixN_seq k3, k4, k5⟩⟩
theorem snd_appL (ho : PE X o (RdE g fo W)) (hi : PE X i (RdE g fi W))
    (hbase : attributeBase o "append" X.env (eval o X.env) = eval o X.env)
    (hfew : ((backTo cpos (starEach [i] X.env)).all (fun x => !x.1) && (backToKw cpos (keywordEach [] X.env)).all (fun x => x.1.isSome)
      && decide (([i] : List Expr).length + ([] : List Keyword).length + (if ([] : List Keyword).isEmpty then 0 else 1) < 30)) = true)
    (hline : (apos.endLine == cpos.line) = true) (hs : starEach [i] X.env = (false, eval i X.env) :: starEach [] X.env) (hplain : (backTo cpos (starEach [] X.env)).any (·.1) = false) :
    PE X (.Call (.Attribute o "append" apos) [i] [] cpos) (RdE g (fun env => bnd (fo env) fun x => chkL x (bnd (fi env) fun y => appM x y)) W) :=
  PE.imp (pe_bm PySem.F.plainAttrs_list PySem.F.slot_list_append PySem.F.type_list_append mt_append ho (pa_cons hi pa_nil hs) hbase hfew hline hs hplain) fun σ H Q ⟨ρ, ω, env, m, he, hm, hp⟩ => ⟨ρ, ω, env, m, he, hm, hp.bind fun ρ1 H1 dx x m1 x1 hx hm1 hp1 => by
    obtain ⟨l, a, xs, vs, rfl, rfl, e1, q, h1, h2, hp1⟩ := chkL_at hm1 hx hp1
    refine ⟨.inl ⟨rfl, _, SqL.of h1⟩, ρ1, ω, env, m1, he.later hm x1, hm1, hp1.bind fun ρ2 H2 dy y m2 x2 hy hm2 hp2 => ?_⟩
    obtain ⟨t, et⟩ := x2.pre
    have e2 : ρ2[l]? = some a := by rw [et, List.getElem?_append_left (List.getElem?_eq_some_iff.mp e1).1]; exact e1
    have hp2 : PostG Dn (g.at ρ2 ω) H2 (appM (.loc l) dy m2) Q (fun cls d H' => W cls d σ H') := hp2
    unfold appM at hp2
    dsimp only at hp2
    cases q2 : m2[l]? with
    | none => rw [q2] at hp2; exact hp2.elim
    | some mo =>
      rw [q2] at hp2
      cases mo with
      | lst ys =>
        obtain ⟨ws, k1, k2⟩ := hm2.at_ l a _ e2 q2
        by_cases hlen : ys.length < line
        · dsimp only at hp2
          rw [if_pos hlen] at hp2
          refine ⟨a, ws, y, rfl, rfl, k1, by rw [← k2.length, ← line_eq]; exact hlen, hp2 ρ2 _ .non (Xt.put (List.mem_of_getElem? e2) (fun ps z => nomatch z)) rfl ?_⟩
          have x3 : Xt (g.at ρ2 ω) H2 ρ2 (upd H2 a (.lst (ws ++ [y]))) := Xt.put (List.mem_of_getElem? e2) (fun ps z => nomatch z)
          exact hm2.put e2 k1 (fun ps z => nomatch z) lst_code (fun ps z => nomatch z) ⟨_, upd_same, DnL.mono (c := g.at ρ2 ω) x3 _ _ (k2.append (DnL.one hy))⟩
        · dsimp only at hp2
          rw [if_neg hlen] at hp2; exact hp2.elim
      | _ => exact hp2.elim⟩
end
end Ev
end
section
set_option Elab.async false
set_option linter.all false
set_option maxRecDepth 100000
set_option maxHeartbeats 2000000
/-! Ev: classes: isinstance, fields; the module's values. -/
namespace Ev
open PySem PySem.Spec PyProof.Rows L2
def tyNs : List String := ["NoneType", "bool", "int", "str", "tuple", "list", "dict"]
/-- what the written part says of the classes -/
structure ClsOk (g : RC) (fe : FE) : Prop where
  at_ : ∀ C b, (C, b) ∈ fe.cls → ∃ A, g.mg C = some (.ref A) ∧ (b = false → C8.InsC g.K A) ∧ (b = true → ExcC g.K A)
  sub : ∀ C b C' b' A A', (C, b) ∈ fe.cls → (C', b') ∈ fe.cls → g.mg C = some (.ref A) → g.mg C' = some (.ref A') → PySem.W.kitOne g.K (.ref A) (.ref A') = some (fe.sub C C')
  low : ∀ C b A, (C, b) ∈ fe.cls → g.mg C = some (.ref A) → ∀ t ∈ tyNs, PySem.W.kitOne g.K (.type t) (.ref A) = some false
  up : ∀ C b A, (C, b) ∈ fe.cls → g.mg C = some (.ref A) → ∀ t ∈ tyNs, PySem.W.kitOne g.K (.ref A) (.type t) = some false
  fl : ∀ C f A, (C, f) ∈ fe.fl → g.mg C = some (.ref A) → NoAttr g.K A f
def tyN : Ty → String
  | .int => "int" | .bool => "bool" | .str => "str" | .tuple => "tuple" | .list => "list" | .dict => "dict" | .cls _ => "NoneType"
/-- the class as a value -/
def TyV (g : RC) : Ty → V → Value → Prop
  | .cls C, c, u => ∃ A, g.mg C = some (.ref A) ∧ c = .ref A ∧ u = .ref A
  | T, c, u => c = .ty (tyN T) ∧ u = .type (tyN T)
theorem TyV.eq {g : RC} {T : Ty} {c : V} {u w : Value} (h : TyV g T c u) (r : RelV c w) : w = u := by
  cases T with
  | cls C => obtain ⟨A, _, rfl, rfl⟩ := h; exact r
  | _ => obtain ⟨rfl, rfl⟩ := h; exact r
section
variable {X : Cx} {g : RC} {fe : FE} {W : WX}
theorem DnF.get {c : RC} {H : Hp} {f : Str} {d : D} : ∀ {fs : List (Str × D)} {ws : List (Str × V)}, DnF c H fs ws → fs.lookup f = some d → ∃ v, ws.lookup f = some v ∧ Dn c H d v
  | [], [], _, e => nomatch e
  | (k, x) :: fs, (k', v) :: ws, ⟨e1, h, t⟩, e => by
    subst e1
    rw [List.lookup_cons] at e ⊢
    cases q : (f == k) with
    | true => rw [q] at e; cases e; exact ⟨v, rfl, h⟩
    | false => rw [q] at e; exact DnF.get t e
  | [], _ :: _, h, _ => h.elim
  | _ :: _, [], h, _ => h.elim
/-- an exception object in the real heap -/
theorem exc_inst {P : Program} {w : World} {c : RC} {H : Hp} {h : Heap} {C : Str} {fs : List (Str × D)} {v : V} (ok : HOk P w H h) (hx : Dn c H (.exc C fs) v) :
    ∃ a A ox od, v = .ref a ∧ c.mg C = some (.ref A) ∧ PySem.W.InstAt h a ox A od ∧ (∀ f d, fs.lookup f = some d → ∃ obj u y, od = some obj ∧ PySem.W.lookIn f obj = some (some u) ∧ RelV y u ∧ Dn c H d y) := by
  obtain ⟨a, A, d, rfl, _, hA, ha, l⟩ := hx
  obtain ⟨⟨oe, vs, e1, e2, e3⟩, _, _⟩ := (show ObjOk P w H h a (ExV (.ref A) d a) from ok a _ ha)
  rcases l with ⟨rfl, rfl⟩ | ⟨dd, ws, rfl, _, hd, lf⟩
  · exact ⟨a, A, oe, none, rfl, hA, ⟨e1, e2.1, by unfold PySem.W.notCls; rw [e3] <;> rfl, by rw [e2.2] <;> trivial⟩, fun f d z => nomatch z⟩
  · obtain ⟨mA, hns, hr⟩ := (show ObjOk P w H h dd (.xd ws) from ok dd _ hd)
    obtain ⟨od, ho, hl⟩ := lookIn_ns hns
    refine ⟨a, A, oe, some od, rfl, hA, ⟨e1, e2.1, by unfold PySem.W.notCls; rw [e3] <;> rfl, by rw [e2.2]; exact ho⟩, fun f d z => ?_⟩
    obtain ⟨y, z1, z2⟩ := lf.get z
    obtain ⟨u, hu, ru⟩ := RelO.some_of (v := y) (o := mA f) (by rw [← z1]; exact hr f)
    exact ⟨od, u, y, rfl, by rw [hl, hu], ru, z2⟩
def rIsD (g : RC) (fe : FE) (T : Ty) : List V → Hp → VK → Prop := fun xs H Q => ∃ x c u ρ ω m dx k, xs = [x, c] ∧ TyV g T c u ∧ MemR (g.at ρ ω) H m ∧ DnV (g.at ρ ω) H dx x ∧ isiD fe.cls fe.sub T dx = some k ∧ Q (.bl k) H
theorem kit_low (co : ClsOk g fe) {T : Ty} {c : V} {u : Value} (hT : TyV g T c u) (ok : tyOk fe.cls T = true) {t : String} (ht : t ∈ tyNs) {k : Bool} (hb : (∀ C, T ≠ .cls C) → kitB t (tyN T) = some k) (hc : (∃ C, T = .cls C) → k = false) : PySem.W.kitOne g.K (.type t) u = some k := by
  cases T with
  | cls C =>
    obtain ⟨A, hA, rfl, rfl⟩ := hT
    obtain ⟨p, hp, e⟩ := List.any_eq_true.mp (show (fe.cls.any fun p => decide (p.1 = C)) = true from ok)
    rw [hc ⟨C, rfl⟩]
    have e := of_decide_eq_true e
    subst e
    exact co.low p.1 p.2 A hp hA t ht
  | _ => obtain ⟨rfl, rfl⟩ := hT; exact kit_ty (hb fun C z => nomatch z)
theorem tyX_of {K : PySem.W.Frag} {H : Hp} {d : D} {x : V} {c : RC} (h : DnV c H d x) (hk : knownD fe.cls d = true) (hi : ∀ C fs, d ≠ .ins C fs) (he : ∀ C fs, d ≠ .exc C fs) :
    ∃ t ∈ tyNs, TyX K H x (.type t) ∧ ∀ T, (∀ C, T ≠ .cls C) → kitB t (tyN T) = some (isiT fe.sub T d) := by
  cases d with
  | non => cases (show x = .non from h); exact ⟨"NoneType", by decide, .base .non, fun T n => by cases T <;> first | exact absurd rfl (n _) | (show kitB _ _ = some false; decide +kernel)⟩
  | bl b => cases (show x = .bl b from h); exact ⟨"bool", by decide, .base (.bl b), fun T n => by cases T <;> first | exact absurd rfl (n _) | (show kitB _ _ = some false; decide +kernel) | (show kitB _ _ = some true; decide +kernel)⟩
  | int b => cases (show x = .int b from h); exact ⟨"int", by decide, .base (.int b), fun T n => by cases T <;> first | exact absurd rfl (n _) | (show kitB _ _ = some false; decide +kernel) | (show kitB _ _ = some true; decide +kernel)⟩
  | str b => cases (show x = .str b from h); exact ⟨"str", by decide, .base (.str b), fun T n => by cases T <;> first | exact absurd rfl (n _) | (show kitB _ _ = some false; decide +kernel) | (show kitB _ _ = some true; decide +kernel)⟩
  | tup ds => obtain ⟨a, vs, rfl, _, r, _⟩ := h; exact ⟨"tuple", by decide, .base (.tup r), fun T n => by cases T <;> first | exact absurd rfl (n _) | (show kitB _ _ = some false; decide +kernel) | (show kitB _ _ = some true; decide +kernel)⟩
  | lst ds => obtain ⟨a, vs, rfl, r, _⟩ := h; exact ⟨"list", by decide, .base (.lst r), fun T n => by cases T <;> first | exact absurd rfl (n _) | (show kitB _ _ = some false; decide +kernel) | (show kitB _ _ = some true; decide +kernel)⟩
  | dK ds => obtain ⟨a, vs, rfl, r, _⟩ := h; exact ⟨"dict", by decide, .base (.dK r), fun T n => by cases T <;> first | exact absurd rfl (n _) | (show kitB _ _ = some false; decide +kernel) | (show kitB _ _ = some true; decide +kernel)⟩
  | dT ds => obtain ⟨a, vs, rfl, r, _⟩ := h; exact ⟨"dict", by decide, .base (.dT r), fun T n => by cases T <;> first | exact absurd rfl (n _) | (show kitB _ _ = some false; decide +kernel) | (show kitB _ _ = some true; decide +kernel)⟩
  | ins C fs => exact absurd rfl (hi C fs)
  | exc C fs => exact absurd rfl (he C fs)
  | frz _ => cases hk
  | fn _ => cases hk
  | loc _ => cases hk
theorem isiT_cls {sub : Str → Str → Bool} {C : Str} {d : D} (hi : ∀ C fs, d ≠ .ins C fs) (he : ∀ C fs, d ≠ .exc C fs) : isiT sub (.cls C) d = false := by
  cases d <;> first | rfl | exact absurd rfl (hi _ _) | exact absurd rfl (he _ _)
theorem kit_up (co : ClsOk g fe) {T : Ty} {c : V} {u : Value} (hT : TyV g T c u) (ok : tyOk fe.cls T = true) {C' : Str} {b : Bool} {A : Addr} (hC : (C', b) ∈ fe.cls) (hA : g.mg C' = some (.ref A)) {d : D} (hd : ∀ C, isiT fe.sub (.cls C) d = fe.sub C' C) (hn : ∀ T, (∀ C, T ≠ .cls C) → isiT fe.sub T d = false) :
    PySem.W.kitOne g.K (.ref A) u = some (isiT fe.sub T d) := by
  have hn1 := hn T
  cases T with
  | cls C =>
    obtain ⟨A', hA', rfl, rfl⟩ := hT
    obtain ⟨p, hp, e⟩ := List.any_eq_true.mp (show (fe.cls.any fun p => decide (p.1 = C)) = true from ok)
    have e := of_decide_eq_true e
    subst e
    rw [hd]
    exact co.sub C' b p.1 p.2 A A' hC hp hA hA'
  | _ => obtain ⟨rfl, rfl⟩ := hT; rw [hn1 (fun C z => nomatch z)]; exact co.up C' b A hC hA _ (by decide)
theorem call_isD (hK : X.K = g.K) (co : ClsOk g fe) (T : Ty) : CallR X (.builtin "isinstance") (rIsD g fe T) := by
  intro pins s σ H xs us Q I r ⟨x, c, u, ρ, ω, m, dx, k, exs, hT, hm, hx, hk, q⟩
  subst exs
  obtain ⟨u1, u2, rfl, r1, r2⟩ := vals2 r
  have e2 := hT.eq r2
  subst e2
  unfold isiD at hk
  split at hk
  · rename_i hk2
    cases hk
    obtain ⟨kn, ok⟩ := Bool.and_eq_true_iff.mp hk2
    cases dx with
    | ins C' fs =>
      obtain ⟨a, A, dx, ws, rfl, _, hA, ha, _⟩ := hx
      have hC : (C', false) ∈ fe.cls := by simpa [knownD] using kn
      obtain ⟨A', hA', ic, _⟩ := co.at_ C' false hC
      rw [hA] at hA'; cases hA'
      have ic := ic rfl
      rw [← hK] at ic
      have ty : TyX X.K H (.ref a) (.ref A) := .base (TyOf.ins ha ic.cl ic.ha ic.hn ic.htk ic.hm)
      obtain ⟨P, Z, p, hx⟩ := kit_of I r1 ty
      exact PySem.W.kia_one Z I.kIn p (by rw [hK]; exact kit_up co hT ok hC hA (fun C => rfl) fun T n => by cases T <;> first | rfl | exact absurd rfl (n _)) hx fun tk => ⟨.bl _, H, I.tok tk, rfl, q⟩
    | exc C' fs =>
      obtain ⟨a, A, ox, od, rfl, hA, J, _⟩ := exc_inst I.hok hx
      cases (show u1 = Value.ref a from r1)
      have hC : (C', true) ∈ fe.cls := by simpa [knownD] using kn
      obtain ⟨A', hA', _, ic⟩ := co.at_ C' true hC
      rw [show (g.at ρ ω).mg = g.mg from rfl] at hA
      rw [hA] at hA'; cases hA'
      have ic := ic rfl
      rw [← hK] at ic
      have hcl : (PySem.W.clsIn X.K A).isSome = true := by obtain ⟨cd, hc, _⟩ := PySem.W.any_some ic.hd; rw [hc] <;> rfl
      exact PySem.W.kia_one (PySem.W.kitx_exc hcl ic.hg ic.hk ic.hs ic.ha ic.hn ic.ht ic.hm) I.kIn J (by rw [hK]; exact kit_up co hT ok hC hA (fun C => rfl) fun T n => by cases T <;> first | rfl | exact absurd rfl (n _)) (fun z => nomatch z) fun tk => ⟨.bl _, H, I.tok tk, rfl, q⟩
    | _ =>
      obtain ⟨t, ht, ty, hb⟩ := tyX_of (K := X.K) hx kn (fun C fs z => nomatch z) (fun C fs z => nomatch z)
      obtain ⟨P, Z, p, hx⟩ := kit_of I r1 ty
      exact PySem.W.kia_one Z I.kIn p (by rw [hK]; exact kit_low co hT ok ht (hb T) fun ⟨C, e⟩ => by subst e; exact isiT_cls (fun C fs z => nomatch z) fun C fs z => nomatch z) hx fun tk => ⟨.bl _, H, I.tok tk, rfl, q⟩
  · cases hk
variable {e a : Expr} {fa : Env → M D} {pos p tp : Pos}
/-- the class as an expression -/
theorem pe_ty {T : Ty} {x : Str} {c : V} {u : Value} (hT : TyV g T c u) (hg : Gl X x) (hm : X.mg = g.mg) (hx : ∀ C, T = .cls C → x = C) (hb : (∀ C, T ≠ .cls C) → X.mg x = none ∧ x = Str.ofString (tyN T)) (hd : (x == ("__debug__" : Str)) = false) (hn : x ≠ "__name__") : PE X (.Name x tp) (tC c) := by
  cases T with
  | cls C =>
    obtain ⟨A, hA, rfl, rfl⟩ := hT
    rw [hx C rfl] at hg hd ⊢
    exact pe_glob hg (by rw [hm]; exact hA) rfl hd
  | _ =>
    obtain ⟨h1, h2⟩ := hb fun C z => nomatch z
    obtain ⟨rfl, rfl⟩ := hT
    exact pe_bltn hg h1 (by rw [h2]; decide +kernel) rfl hn hd
theorem snd_isi (hK : X.K = g.K) (co : ClsOk g fe) {T : Ty} {c : V} {u : Value} (hT : TyV g T c u) (hg : Gl X "isinstance") (hm : X.mg "isinstance" = none) (ha : PE X a (RdW g fa W)) (ht : PE X e (tC c))
    (he : starEach [a, e] X.env = (false, eval a X.env) :: starEach [e] X.env) (he2 : starEach [e] X.env = (false, eval e X.env) :: starEach [] X.env) (hpl : (backTo pos (starEach [e] X.env)).any (·.1) = false) :
    PE X (.Call (.Name "isinstance" p) [a, e] [] pos) (RdE g (fun env => bnd (fa env) fun x => d1 x fun x => (isiD fe.cls fe.sub T x).map .bl) W) :=
  PE.imp (pe_callB (id := "isinstance") (call_isD hK co T) hg hm (by decide +kernel) (pa_cons ha (pa_cons ht pa_nil he2) he) (by decide +kernel) (by decide +kernel) he hpl) fun σ H Q ⟨ρ, ω, env, m, he, hm, hp⟩ => ⟨ρ, ω, env, m, he, hm, hp.bind fun ρ1 H1 dx x m1 x1 hx hm1 hp1 => by
    obtain ⟨dx', d, h1, h2, h3⟩ := d1_fin hm1 hx hp1
    obtain ⟨k, e1, rfl⟩ := Option.map_eq_some_iff.mp h2
    exact ⟨x, c, u, ρ1, ω, m1, dx', k, rfl, hT, hm1, h1, e1, fin_bl hm1 h3⟩⟩
/-- e.f -/
theorem snd_fld {f : Str} (hK : X.K = g.K) (co : ClsOk g fe) (ha : PE X a (RdE g fa W)) (hb : attributeBase a f X.env (eval a X.env) = eval a X.env) : PE X (.Attribute a f pos) (RdE g (fun env => bnd (fa env) fun x => lift (fldD fe.cls fe.fl x f)) W) := by
  refine ⟨fun pins s σ H Q I ⟨ρ, ω, env, m, he, hm, hp⟩ => ?_⟩
  have h1 : RdE g fa W σ H fun x H1 => ∃ ρ1 m1 dx d, Xt (g.at ρ ω) H ρ1 H1 ∧ MemR (g.at ρ1 ω) H1 m1 ∧ Dn (g.at ρ1 ω) H1 dx x ∧ fldD fe.cls fe.fl dx f = some d ∧ PostG Dn (g.at ρ1 ω) H1 (ret d m1) Q (fun cls d H' => W cls d σ H') := ⟨ρ, ω, env, m, he, hm, hp.bind fun ρ1 H1 dx x m1 x1 hx hm1 hp1 => by
    cases q : fldD fe.cls fe.fl dx f with
    | none => rw [q] at hp1; exact hp1.elim
    | some d => rw [q] at hp1; exact ⟨ρ1, m1, dx, d, x1, hm1, hx, q, hp1⟩⟩
  refine attr_of hb (thn (ha.run pins s σ H _ I h1) fun u s1 ⟨x, H1, I1, rx, ρ1, m1, dx, d, x1, hm1, hx, hd, hp1⟩ => ?_)
  cases dx with
  | ins C fs =>
    obtain ⟨a, A, dx, ws, rfl, _, hA, hr, lf⟩ := hx
    simp only [fldD] at hd
    split at hd
    · rename_i hc
      obtain ⟨hc1, hc2⟩ := Bool.and_eq_true_iff.mp hc
      obtain ⟨y, z1, z2⟩ := lf.get hd
      have hC : (C, false) ∈ fe.cls := by simpa using hc1
      obtain ⟨A', hA', ic, _⟩ := co.at_ C false hC
      have hn := co.fl C f A' (by simpa using hc2) hA'
      rw [show (g.at ρ1 ω).mg = g.mg from rfl, hA'] at hA
      cases hA
      obtain rfl : u = Value.ref a := rx
      exact getattr_ok I1 hr (by rw [hK]; exact (ic rfl).cl) (by rw [hK]; exact hn) z1 fun u' s2 I2 ru => ⟨y, H1, I2, ru, hp1.ret z2 hm1⟩
    · cases hd
  | exc C fs =>
    simp only [fldD] at hd
    split at hd
    · rename_i hc
      obtain ⟨hc1, hc2⟩ := Bool.and_eq_true_iff.mp hc
      obtain ⟨a, A, ox, od, rfl, hA, J, l⟩ := exc_inst I1.hok hx
      obtain ⟨obj, u', y, rfl, e1, ru, hy⟩ := l f d hd
      have hC : (C, true) ∈ fe.cls := by simpa using hc1
      obtain ⟨A', hA', _, ic⟩ := co.at_ C true hC
      have hn := co.fl C f A' (by simpa using hc2) hA'
      rw [show (g.at ρ1 ω).mg = g.mg from rfl, hA'] at hA
      cases hA
      have ic := ic rfl
      rw [← hK] at ic hn
      obtain rfl : u = Value.ref a := rx
      exact HandSPX.exc_get I1.kIn J ic.hg ic.hk ic.hs (PySem.W.findObj_own ic.hd hn rfl e1) (handed_of ru) ⟨y, H1, I1.tok _, ru, hp1.ret hy hm1⟩
    · cases hd
  | _ => cases hd
end
end Ev
end
section
set_option Elab.async false
set_option linter.all false
set_option maxRecDepth 100000
set_option maxHeartbeats 2000000
/-! Ev: dicts written out. -/
namespace Ev
open PySem PySem.Spec PyProof.Rows L2
theorem mergeK_new : ∀ {kvs acc : List (Key × V)}, ((acc ++ kvs).map (·.1)).Nodup → mergeK acc kvs = acc ++ kvs
  | [], acc, _ => by simp [mergeK]
  | p :: kvs, acc, h => by
    have e : mergeK acc (p :: kvs) = mergeK (putK acc p.1 p.2) kvs := rfl
    have nk : valV acc p.1 = none := by
      unfold valV
      have : acc.find? (fun kv => decide (kv.1 = p.1)) = none := by
        rw [List.find?_eq_none]
        intro q hq hz
        have hz := of_decide_eq_true hz
        rw [List.map_append] at h
        have := (List.nodup_append.mp h).2.2 q.1 (List.mem_map_of_mem hq) p.1 (by simp)
        exact this hz
      rw [this]; rfl
    rw [e, putK_new _ nk, mergeK_new (by rw [List.append_assoc]; exact h), List.append_assoc]
    rfl
theorem ExR.less {c : RC} {H : Hp} {ω' : List Addr} (hs : ∀ a ∈ ω', a ∈ c.ω) {C : Str} {fs : List (Str × D)} {A : Addr} {d : Option Addr} (h : ExR c H C fs A d) : ExR (c.w ω') H C fs A d := by
  obtain ⟨h1, h2⟩ := h
  refine ⟨h1, ?_⟩
  rcases h2 with h2 | ⟨dd, ws, e, k, r, l⟩
  · exact .inl h2
  · exact .inr ⟨dd, ws, e, ⟨k.r, fun z => k.w (hs _ z)⟩, r, DnF.less hs fs ws l⟩
section
variable {X : Cx} {g : RC} {W : WX} {fs : Env → M (List D)}
structure RdPs (X : Cx) (g : RC) (W : WX) (pos : Pos) (keys : List (Option Expr)) (values : List Expr) (ks : List Key) (fs : Env → M (List D)) : Prop where
  ex : ∃ trs, PPs X pos keys values trs ∧ ∀ (σ : L2.St) (H : Hp) (Q : List (V × V) → Hp → Prop), rdM g DnL fs W σ H (fun vs H2 => Q ((ks.map kV).zip vs) H2) → tPairs trs σ H Q
theorem snd_pnil {pos : Pos} : RdPs X g W pos [] [] [] (fun _ => ret []) := ⟨[], pps_nil, fun σ H Q ⟨ρ, ω, env, m, he, hm, hp⟩ => hp.ret (b := ([] : List V)) True.intro hm⟩
theorem snd_pcons {pos : Pos} {k v : Expr} {kd : Key} {f : Env → M D} {keys : List (Option Expr)} {values : List Expr} {ks : List Key} (hk : PE X k (tC (kV kd))) (hv : PE X v (RdE g f W)) (hr : RdPs X g W pos keys values ks fs) :
    RdPs X g W pos (some k :: keys) (v :: values) (kd :: ks) (fun env => bnd (f env) fun x => bnd (fs env) fun xs => ret (x :: xs)) := by
  obtain ⟨trs, h1, h2⟩ := hr.ex
  refine ⟨_, pps_cons hk hv h1, fun σ H Q ⟨ρ, ω, env, m, he, hm, hp⟩ => ?_⟩
  exact ⟨ρ, ω, env, m, he, hm, hp.bind fun ρ1 H1 dx x m1 x1 hx hm1 hp1 => h2 σ H1 _ ⟨ρ1, ω, env, m1, he.later hm x1, hm1, hp1.bind fun ρ2 H2 dy y m2 x2 hy hm2 hp2 => hp2.ret (b := x :: y) ⟨hx.mono x2, hy⟩ hm2⟩⟩
theorem zip_K {c : RC} {H : Hp} : ∀ {ks : List Key} {ds : List D} {vs : List V}, DnL c H ds vs → DnK c H (ks.zip ds) (ks.zip vs)
  | [], _, _, _ => by simp [DnK]
  | _ :: _, [], [], _ => True.intro
  | _ :: ks, _ :: _, _ :: _, ⟨h, t⟩ => ⟨rfl, h, zip_K t⟩
  | _ :: _, [], _ :: _, h => h.elim
  | _ :: _, _ :: _, [], h => h.elim
theorem zip_pairs (ks : List Key) (vs : List V) : (ks.map kV).zip vs = (ks.zip vs).map fun kv => (kV kv.1, kv.2) := by
  induction ks generalizing vs with
  | nil => rfl
  | cons k ks ih =>
    cases vs with
    | nil => rfl
    | cons v vs => rw [List.map_cons, List.zip_cons_cons, List.zip_cons_cons, List.map_cons, ih]
theorem snd_dis {pos : Pos} {keys : List (Option Expr)} {values : List Expr} {ks : List Key} (h : RdPs X g W pos keys values ks fs) (hall : keys.all (·.isSome) = true) (hl : keys.length = values.length) (h0 : keys ≠ []) (h15 : keys.length ≤ 15) :
    PE X (.Dict keys values pos) (RdF g (fun env => bnd (fs env) fun xs => guardM (decide (xs.length = ks.length ∧ ks.length ≤ 15 ∧ ks.Nodup)) (ret (.dK (ks.zip xs)))) W) := by
  obtain ⟨trs, h1, h2⟩ := h.ex
  refine PE.imp (pe_disp h1 hall hl h0 h15) fun σ H Q ⟨ρ, ω, env, m, he, hm, hp⟩ p n => h2 σ _ _ ⟨ρ, p :: ω, env, m, ?_, hm.hold n (fun ps z => nomatch z), ?_⟩
  · have e1 : EnvR (g.at ρ (p :: ω)) H env σ := EnvR.more (c := g.at ρ ω) (fr0_none n) he
    exact EnvR.mono (c := g.at ρ (p :: ω)) (Xt.laid n) (fun a ha => by
      rcases List.mem_cons.mp ha with e | ha
      · subst e; exact (hm.ok_new n).r
      · exact hm.dj a ha) e1
  · have lo : ∀ a ∈ ω, a ∈ (g.at ρ (p :: ω)).ω := fun a h => List.mem_cons_of_mem _ h
    have xb : ∀ {ρ' H'}, Xt (g.at ρ (p :: ω)) (upd H p (.dK [])) ρ' H' → Xt (g.at ρ ω) H ρ' H' := fun {ρ' H'} x => (Xt.laid (c := g.at ρ ω) n).trans ⟨x.pre, x.new, x.keep, x.there⟩
    dsimp only [bnd] at hp
    cases q : fs env m with
    | bad => rw [q] at hp; exact hp.elim
    | exc C fl mm =>
      rw [q] at hp
      exact fun ρ' H' A d x hr hm' => hp ρ' H' A d (xb x) (ExR.less (c := g.at ρ' (p :: ω)) (ω' := ω) (fun a h => List.mem_cons_of_mem _ h) hr) (MemR.less (c := g.at ρ' (p :: ω)) (ω' := ω) (fun a h => List.mem_cons_of_mem _ h) hm')
    | ok ds m1 =>
      rw [q] at hp
      dsimp only [Res.bind] at hp
      obtain ⟨k, hp⟩ := guardF hp
      obtain ⟨k1, k2, k3⟩ := of_decide_eq_true k
      intro ρ' H' vs x hl' hm'
      have ep : H' p = some (.dK []) := x.keep p _ upd_same (hm.ok_new n).r (fun ps z => nomatch z)
      have hv : vs.length = ks.length := by rw [← k1]; exact (DnL.length hl').symm
      refine ⟨ep, ks.zip vs, zip_pairs ks vs, by rw [List.length_zip]; omega, ?_⟩
      have e : mergeK [] (ks.zip vs) = ks.zip vs := mergeK_new (by
        rw [List.nil_append, List.map_fst_zip (by omega)]; exact k3)
      rw [e]
      have xg : Xt (g.at ρ ω) H ρ' (upd H' p (.dK (ks.zip vs))) := (xb x).grow (fr0_none n)
      refine hp ρ' _ p xg (fr0_none n) ⟨_, upd_same, ?_⟩ (hm'.own_upd List.mem_cons_self ep (fun ps z => nomatch z) (fun c q z => by unfold LamX.CodeO at z; cases z) (fun ps z => nomatch z))
      exact zip_K (DnL.monoW (c := g.at ρ' (p :: ω)) (Xw.own List.mem_cons_self) _ _ hl')
end
end Ev
end
section
set_option Elab.async false
set_option linter.all false
set_option maxRecDepth 100000
set_option maxHeartbeats 2000000
/-! Ev: statements. -/
namespace Ev
open PySem PySem.Spec PyProof.Rows L2
/-- to other places and a later heap -/
structure Go (c : RC) (H : Hp) (c' : RC) (H' : Hp) : Prop where
  K : c'.K = c.K
  mg : c'.mg = c.mg
  T : c'.T = c.T
  ρ : ∀ (l : Nat) (a : Addr), c.ρ[l]? = some a → c'.ρ[l]? = some a
  keep : ∀ a o, H a = some o → c.ok a → (∀ ps, o ≠ .tbl ps) → H' a = some o ∧ c'.ok a
theorem Go.rd {c c' : RC} {H H' : Hp} {a : Addr} {o : HO} (t : Go c H c' H') (h : c.ok a) (e : Rd H a o) (n : ∀ ps, o ≠ .tbl ps) : c'.ok a ∧ Rd H' a o := by
  rcases e with e | ⟨ob, e⟩
  · obtain ⟨h1, h2⟩ := t.keep a o e h n
    exact ⟨h2, .inl h1⟩
  · obtain ⟨h1, h2⟩ := t.keep a _ e h fun ps z => nomatch z
    exact ⟨h2, .inr ⟨ob, h1⟩⟩
mutual
theorem Dn.go {c c' : RC} {H H' : Hp} (t : Go c H c' H') : ∀ (d : D) (v : V), Dn c H d v → Dn c' H' d v
  | .non, _, h => h
  | .bl _, _, h => h
  | .int _, _, h => h
  | .str _, _, h => h
  | .tup ds, _, ⟨a, vs, e, k, r, l⟩ => let ⟨h1, h2⟩ := t.keep a _ r k (fun ps z => nomatch z); ⟨a, vs, e, h2, h1, DnL.go t ds vs l⟩
  | .lst ds, _, ⟨a, vs, e, k, r, l⟩ => let ⟨h1, h2⟩ := t.keep a _ r k (fun ps z => nomatch z); ⟨a, vs, e, h2, h1, DnL.go t ds vs l⟩
  | .frz ds, _, ⟨a, vs, e, k, l⟩ => by
    refine ⟨a, vs, e, ?_, DnL.go t ds vs l⟩
    rcases k with ⟨k, r⟩ | k
    · exact .inl (t.rd k r fun ps z => nomatch z)
    · exact .inr (by rw [t.K]; exact k)
  | .dK kvs, _, ⟨a, ws, e, k, r, l⟩ => let ⟨h1, h2⟩ := t.keep a _ r k (fun ps z => nomatch z); ⟨a, ws, e, h2, h1, DnK.go t kvs ws l⟩
  | .dT kvs, _, ⟨a, ws, e, k, r, l⟩ => let ⟨h1, h2⟩ := t.keep a _ r k (fun ps z => nomatch z); ⟨a, ws, e, h2, h1, DnT.go t kvs ws l⟩
  | .ins C fs, _, ⟨a, A, dx, ws, e, k, g, r, l⟩ => let ⟨h1, h2⟩ := t.keep a _ r k (fun ps z => nomatch z); ⟨a, A, dx, ws, e, h2, by rw [t.mg]; exact g, h1, DnF.go t fs ws l⟩
  | .exc C fs, _, ⟨a, A, d, e, k, g, r, l⟩ => by
    obtain ⟨h1, h2⟩ := t.keep a _ r k (fun ps z => nomatch z)
    refine ⟨a, A, d, e, h2, by rw [t.mg]; exact g, h1, ?_⟩
    rcases l with l | ⟨dd, ws, e2, k2, r2, l⟩
    · exact .inl l
    · obtain ⟨h3, h4⟩ := t.keep dd _ r2 k2 (fun ps z => nomatch z)
      exact .inr ⟨dd, ws, e2, h4, h3, DnF.go t fs ws l⟩
  | .fn _, _, h => by obtain ⟨u, e, r⟩ := h; exact ⟨u, by rw [t.mg]; exact e, r⟩
  | .loc l, _, ⟨a, e, h⟩ => ⟨a, t.ρ l a e, h⟩
theorem DnL.go {c c' : RC} {H H' : Hp} (t : Go c H c' H') : ∀ (ds : List D) (vs : List V), DnL c H ds vs → DnL c' H' ds vs
  | [], [], _ => True.intro
  | d :: ds, v :: vs, ⟨h, k⟩ => ⟨Dn.go t d v h, DnL.go t ds vs k⟩
  | [], _ :: _, h => h
  | _ :: _, [], h => h
theorem DnK.go {c c' : RC} {H H' : Hp} (t : Go c H c' H') : ∀ (ds : List (Key × D)) (vs : List (Key × V)), DnK c H ds vs → DnK c' H' ds vs
  | [], [], _ => True.intro
  | (_, d) :: ds, (_, v) :: vs, ⟨e, h, k⟩ => ⟨e, Dn.go t d v h, DnK.go t ds vs k⟩
  | [], _ :: _, h => h
  | _ :: _, [], h => h
theorem DnT.go {c c' : RC} {H H' : Hp} (t : Go c H c' H') : ∀ (ds : List (List Key × D)) (vs : List (List Key × V)), DnT c H ds vs → DnT c' H' ds vs
  | [], [], _ => True.intro
  | (_, d) :: ds, (_, v) :: vs, ⟨e, h, k⟩ => ⟨e, Dn.go t d v h, DnT.go t ds vs k⟩
  | [], _ :: _, h => h
  | _ :: _, [], h => h
theorem DnF.go {c c' : RC} {H H' : Hp} (t : Go c H c' H') : ∀ (ds : List (Str × D)) (vs : List (Str × V)), DnF c H ds vs → DnF c' H' ds vs
  | [], [], _ => True.intro
  | (_, d) :: ds, (_, v) :: vs, ⟨e, h, k⟩ => ⟨e, Dn.go t d v h, DnF.go t ds vs k⟩
  | [], _ :: _, h => h
  | _ :: _, [], h => h
end
theorem Itm.go {c c' : RC} {H H' : Hp} (t : Go c H c' H') {it : Itm} (h : it.ok c H) : it.ok c' H' := by
  cases it with
  | one d v => exact Dn.go t d v h
  | two d e v w => exact ⟨Dn.go t d v h.1, Dn.go t e w h.2⟩
/-- where a def's body stands: e is what it was entered with; π: what it holds alone and may change -/
structure Ent where
  ρ : List Addr
  ω : List Addr
  π : List Addr
  H : Hp
structure Xe (e : Ent) (ρ' : List Addr) (H' : Hp) : Prop where
  pre : ∃ t, ρ' = e.ρ ++ t
  new : ∀ a ∈ ρ', a ∈ e.ρ ∨ Fr0 e.H a
  keep : ∀ a o, e.H a = some o → a ∉ e.ρ → a ∉ e.π → (∀ ps, o ≠ .tbl ps) → H' a = some o
  there : ∀ a o, e.H a = some o → (∀ ps, o ≠ .tbl ps) → ∃ o', H' a = some o' ∧ ∀ ps, o' ≠ .tbl ps
structure AtS (g : RC) (e : Ent) (ρ ω : List Addr) (H : Hp) (env : Env) (σ : L2.St) (m : Mem) : Prop where
  x : Xe e ρ H
  ow : ∃ π, ω = π ++ e.ω ∧ ∀ a ∈ π, a ∈ e.π ∨ Fr0 e.H a
  he : EnvR (g.at ρ ω) H env σ
  hm : MemR (g.at ρ ω) H m
  fo : ∀ (i : Nat) (d : D) (a : Addr), env[i]? = some (.own d) → σ[i]? = some (some (.ref a)) → a ∉ e.ω
theorem Xe.step {g : RC} {e : Ent} {ρ ω ρ1 : List Addr} {H H1 : Hp} (a : Xe e ρ H) (x : Xt (g.at ρ ω) H ρ1 H1) : Xe e ρ1 H1 := by
  obtain ⟨t, h⟩ := a.pre
  obtain ⟨t', h'⟩ := x.pre
  refine ⟨⟨t ++ t', by rw [h']; show ρ ++ t' = _; rw [h, List.append_assoc]⟩, fun b hb => ?_, fun b o eb n1 n2 nt => ?_, fun b o eb nt => ?_⟩
  · rcases x.new b hb with z | z
    · exact a.new b z
    · exact .inr (fr_of fun o q nt => by obtain ⟨o', q', t'⟩ := a.there b o q nt; exact fr_no z q' t')
  · refine x.keep b o (a.keep b o eb n1 n2 nt) (fun z => ?_) nt
    rcases a.new b z with z | z
    · exact n1 z
    · exact fr_no z eb nt
  · obtain ⟨o', h', t'⟩ := a.there b o eb nt
    exact x.there b o' h' t'
theorem Xe.put {e : Ent} {ρ : List Addr} {H : Hp} {a : Addr} {u : HO} (x : Xe e ρ H) (h : a ∈ e.π ∨ Fr0 e.H a) (tu : ∀ ps, u ≠ .tbl ps) : Xe e ρ (upd H a u) := by
  refine ⟨x.pre, x.new, fun b o eb n1 n2 nt => ?_, fun b o eb nt => ?_⟩
  · have n : b ≠ a := fun z => by
      subst z
      exact h.elim n2 fun h => fr_no h eb nt
    rw [upd_ne n]; exact x.keep b o eb n1 n2 nt
  · by_cases z : b = a
    · subst z; exact ⟨u, upd_same, tu⟩
    · rw [upd_ne z]; exact x.there b o eb nt
/-- nothing else than ρ matters -/
theorem Xt.as {c c' : RC} {H H' : Hp} {ρ' : List Addr} (x : Xt c H ρ' H') (e : c'.ρ = c.ρ) : Xt c' H ρ' H' := ⟨by rw [e]; exact x.pre, by rw [e]; exact x.new, by rw [e]; exact x.keep, x.there⟩
variable {g : RC} {e : Ent} {ρ ω : List Addr} {H : Hp} {env : Env} {σ : L2.St} {m : Mem}
theorem AtS.lo (a : AtS g e ρ ω H env σ m) : ∀ b ∈ e.ω, b ∈ ω := fun b hb => by
  obtain ⟨π, h, _⟩ := a.ow
  rw [h]
  exact List.mem_append_right _ hb
/-- after an expression -/
theorem AtS.step {ρ1 : List Addr} {H1 : Hp} {m1 : Mem} (a : AtS g e ρ ω H env σ m) (x : Xt (g.at ρ ω) H ρ1 H1) (hm1 : MemR (g.at ρ1 ω) H1 m1) : AtS g e ρ1 ω H1 env σ m1 :=
  ⟨a.x.step x, a.ow, a.he.later a.hm x, hm1, a.fo⟩
/-- from here on -/
def AtS.ent (e : Ent) (ρ ω : List Addr) (H : Hp) : Ent := ⟨ρ, e.ω, ω.take (ω.length - e.ω.length), H⟩
theorem AtS.ent_ω (a : AtS g e ρ ω H env σ m) : ω = (AtS.ent e ρ ω H).π ++ e.ω := by
  obtain ⟨π, h, _⟩ := a.ow
  show ω = ω.take (ω.length - e.ω.length) ++ e.ω
  rw [h, List.length_append, Nat.add_sub_cancel, List.take_left']
  rfl
theorem AtS.ent_π (a : AtS g e ρ ω H env σ m) : ∀ b ∈ (AtS.ent e ρ ω H).π, b ∈ e.π ∨ Fr0 e.H b := by
  obtain ⟨π, h, h2⟩ := a.ow
  show ∀ b ∈ ω.take (ω.length - e.ω.length), _
  rw [h, List.length_append, Nat.add_sub_cancel, List.take_left']
  · exact h2
  · rfl
theorem AtS.here (a : AtS g e ρ ω H env σ m) : AtS g (AtS.ent e ρ ω H) ρ ω H env σ m :=
  ⟨⟨⟨[], by simp [AtS.ent]⟩, fun b hb => .inl hb, fun _ _ h _ _ _ => h, fun _ o h t => ⟨o, h, t⟩⟩, ⟨_, a.ent_ω, fun b hb => .inl hb⟩, a.he, a.hm, a.fo⟩
theorem Xe.back {ρ2 : List Addr} {H2 : Hp} (a : AtS g e ρ ω H env σ m) (y : Xe (AtS.ent e ρ ω H) ρ2 H2) : Xe e ρ2 H2 := by
  obtain ⟨t, h⟩ := a.x.pre
  obtain ⟨t', h'⟩ := y.pre
  refine ⟨⟨t ++ t', by rw [h']; show ρ ++ t' = _; rw [h, List.append_assoc]⟩, fun b hb => ?_, fun b o eb n1 n2 nt => ?_, fun b o eb nt => ?_⟩
  · rcases y.new b hb with z | z
    · exact a.x.new b z
    · exact .inr (fr_of fun o q nt => by obtain ⟨o', q', t'⟩ := a.x.there b o q nt; exact fr_no z q' t')
  · refine y.keep b o (a.x.keep b o eb n1 n2 nt) (fun z => ?_) (fun z => ?_) nt
    · rcases a.x.new b z with z | z
      · exact n1 z
      · exact fr_no z eb nt
    · rcases a.ent_π b z with z | z
      · exact n2 z
      · exact fr_no z eb nt
  · obtain ⟨o', h', t'⟩ := a.x.there b o eb nt
    exact y.there b o' h' t'
theorem AtS.back {ρ2 ω2 : List Addr} {H2 : Hp} {env2 : Env} {σ2 : L2.St} {m2 : Mem} (a : AtS g e ρ ω H env σ m) (y : AtS g (AtS.ent e ρ ω H) ρ2 ω2 H2 env2 σ2 m2) : AtS g e ρ2 ω2 H2 env2 σ2 m2 := by
  refine ⟨Xe.back a y.x, ?_, y.he, y.hm, y.fo⟩
  obtain ⟨π, h1, h2⟩ := y.ow
  refine ⟨π, h1, fun b hb => ?_⟩
  rcases h2 b hb with z | z
  · exact a.ent_π b z
  · exact .inr (fr_of fun o q nt => by obtain ⟨o', q', t'⟩ := a.x.there b o q nt; exact fr_no z q' t')
/-- data that stand at the start of a part still stand -/
theorem AtS.goes {ρ2 ω2 : List Addr} {H2 : Hp} {env2 : Env} {σ2 : L2.St} {m2 : Mem} (a : AtS g e ρ ω H env σ m) (y : AtS g (AtS.ent e ρ ω H) ρ2 ω2 H2 env2 σ2 m2) : Go (g.at ρ ω) H (g.at ρ2 ω2) H2 := by
  obtain ⟨t, h⟩ := y.x.pre
  obtain ⟨π, h1, h2⟩ := y.ow
  refine ⟨rfl, rfl, rfl, fun l b q => ?_, fun b o eb k nt => ?_⟩
  · show ρ2[l]? = some b
    rw [h]
    show (ρ ++ t)[l]? = some b
    rw [List.getElem?_append_left (List.getElem?_eq_some_iff.mp q).1]; exact q
  · have n2 : b ∉ (AtS.ent e ρ ω H).π := fun z => k.w (by show b ∈ ω; rw [a.ent_ω]; exact List.mem_append_left _ z)
    refine ⟨y.x.keep b o eb k.r n2 nt, fun z => ?_, fun z => ?_⟩
    · rcases y.x.new b z with z | z
      · exact k.r z
      · exact fr_no z eb nt
    · have z : b ∈ ω2 := z
      rw [h1] at z
      rcases List.mem_append.mp z with z | z
      · rcases h2 b z with z | z
        · exact n2 z
        · exact fr_no z eb nt
      · exact k.w (a.lo b z)
def PostS (g : RC) (e : Ent) (r : Res Out) (D : Ends) (E : XK) : Prop :=
  match r with
  | .ok (.nx env) m => ∀ ρ ω H σ, AtS g e ρ ω H env σ m → D.nx σ H
  | .ok (.bk env) m => ∀ ρ ω H σ, AtS g e ρ ω H env σ m → D.bk σ H
  | .ok (.ct env) m => ∀ ρ ω H σ, AtS g e ρ ω H env σ m → D.ct σ H
  | .ok (.ret d) m => ∀ ρ H v, Xe e ρ H → Dn (g.at ρ e.ω) H d v → MemR (g.at ρ e.ω) H m → D.rt v H
  | .exc C fs m => ∀ ρ H A d, Xe e ρ H → ExR (g.at ρ e.ω) H C fs A d → MemR (g.at ρ e.ω) H m → E (.ref A) d H
  | .bad => False
theorem PostS.here {r : Res Out} {D : Ends} {E : XK} (a : AtS g e ρ ω H env σ m) (h : PostS g e r D E) : PostS g (AtS.ent e ρ ω H) r D E := by
  cases r with
  | ok o m1 =>
    cases o with
    | nx env => exact fun ρ2 ω2 H2 σ2 y => h ρ2 ω2 H2 σ2 (a.back y)
    | bk env => exact fun ρ2 ω2 H2 σ2 y => h ρ2 ω2 H2 σ2 (a.back y)
    | ct env => exact fun ρ2 ω2 H2 σ2 y => h ρ2 ω2 H2 σ2 (a.back y)
    | ret d => exact fun ρ2 H2 v y hd hm => h ρ2 H2 v (Xe.back a y) hd hm
  | exc C fs m1 => exact fun ρ2 H2 A d y hd hm => h ρ2 H2 A d (Xe.back a y) hd hm
  | bad => exact h
def WK (E : XK) : WX := fun cls d _ H => E cls d H
theorem PostS.exc {γ δ : Type} {S : Rel γ δ} {C : Str} {fs : List (Str × D)} {m1 : Mem} {D : Ends} {E : XK} {Q : δ → Hp → Prop} (a : AtS g e ρ ω H env σ m) (h : PostS g e (.exc C fs m1) D E) : PostG S (g.at ρ ω) H (.exc C fs m1) Q E :=
  fun ρ' H' A d x hr hm' => h ρ' H' A d (a.x.step x) (ExR.less (c := g.at ρ' ω) (ω' := e.ω) a.lo hr) (MemR.less (c := g.at ρ' ω) (ω' := e.ω) a.lo hm')
theorem PostS.bind {γ δ : Type} {S : Rel γ δ} {r : Res γ} {f : γ → M Out} {D : Ends} {E : XK} {Q : δ → Hp → Prop} (a : AtS g e ρ ω H env σ m) (h : PostS g e (r.bind f) D E)
    (k : ∀ ρ1 H1 d v m1, AtS g e ρ1 ω H1 env σ m1 → S (g.at ρ1 ω) H1 d v → PostS g e (f d m1) D E → Q v H1) : PostG S (g.at ρ ω) H r Q E := by
  cases r with
  | ok d m1 => exact fun ρ1 H1 v x hr hm => k ρ1 H1 d v m1 (a.step x hm) hr h
  | exc C fs m1 => exact PostS.exc a h
  | bad => exact h.elim
theorem PostS.bindX {γ δ : Type} {S : Rel γ δ} {r : Res γ} {f : γ → M Out} {D : Ends} {E : XK} {Q : δ → Hp → Prop} (a : AtS g e ρ ω H env σ m) (h : PostS g e (r.bind f) D E)
    (k : ∀ ρ1 H1 d v m1, Xt (g.at ρ ω) H ρ1 H1 → AtS g e ρ1 ω H1 env σ m1 → S (g.at ρ1 ω) H1 d v → PostS g e (f d m1) D E → Q v H1) : PostG S (g.at ρ ω) H r Q E := by
  cases r with
  | ok d m1 => exact fun ρ1 H1 v x hr hm => k ρ1 H1 d v m1 x (a.step x hm) hr h
  | exc C fs m1 => exact PostS.exc a h
  | bad => exact h.elim
theorem PostS.bindI {r : Res (List D)} {f : List D → M Out} {D : Ends} {E : XK} {Q : L2.It → Hp → Prop} {w : Bool} (a : AtS g e ρ ω H env σ m) (h : PostS g e (r.bind f) D E)
    (k : ∀ ρ1 H1 J its m1, AtS g e ρ1 ω H1 env σ m1 → (∀ it ∈ its, it.ok (g.at ρ1 ω) H1) → Yld (Xi w ρ1 ω) H1 J its → PostS g e (f (its.map Itm.D) m1) D E → Q J H1) : PostI w g ρ ω H r Q E := by
  cases r with
  | ok ds m1 => exact fun ρ1 H1 J its x e1 ho y hm => k ρ1 H1 J its m1 (a.step x hm) ho y (by subst e1; exact h)
  | exc C fs m1 => exact PostS.exc (S := fun _ _ (_ : Ev.D) (_ : V) => True) (Q := fun _ _ => True) a h
  | bad => exact h.elim
theorem PostS.bindF {r : Res D} {f : D → M Out} {D : Ends} {E : XK} {Q : VK} (a : AtS g e ρ ω H env σ m) (h : PostS g e (r.bind f) D E)
    (k : ∀ ρ1 H1 d p m1, AtS g e ρ1 (p :: ω) H1 env σ m1 → p ∉ ω → OwR (g.at ρ1 (p :: ω)) H1 p d → PostS g e (f d m1) D E → Q (.ref p) H1) : PostF (g.at ρ ω) H r Q E := by
  cases r with
  | ok d m1 =>
    intro ρ1 H1 p x n ho hm1
    have np : p ∉ ω := fun z => by obtain ⟨o, e, t⟩ := a.hm.own p z; exact fr_no n e t
    refine k ρ1 H1 d p m1 ⟨a.x.step x, ?_, ?_, hm1, a.fo⟩ np ho h
    · obtain ⟨π, h1, h2⟩ := a.ow
      refine ⟨p :: π, by rw [h1]; rfl, fun b hb => ?_⟩
      rcases List.mem_cons.mp hb with z | z
      · subst z
        exact .inr (fr_of fun o q nt => by obtain ⟨o', q', t'⟩ := a.x.there b o q nt; exact fr_no n q' t')
      · exact h2 b z
    · have e1 : EnvR (g.at ρ (p :: ω)) H env σ := EnvR.more (c := g.at ρ ω) n a.he
      exact EnvR.mono (c := g.at ρ (p :: ω)) (x.as rfl) (fun b hb => by
        rcases List.mem_cons.mp hb with z | z
        · subst z; exact fun z => by obtain ⟨o, e, t⟩ := a.hm.there z; exact fr_no n e t
        · exact a.hm.dj b z) e1
  | exc C fs m1 => exact PostS.exc (S := fun _ _ (_ : Ev.D) (_ : V) => True) (Q := fun _ _ => True) a h
  | bad => exact h.elim
def rdS (g : RC) (f : Env → M Out) (E : XK) : TS := fun D σ H => ∃ e ρ ω env m, AtS g e ρ ω H env σ m ∧ PostS g e (f env m) D E
theorem EnvR.own {c : RC} {a : Addr} {d : D} (h : EnvR c H env σ) (i : Nat) (ha : a ∈ c.ω) (hn : ∀ (j : Nat) (d : D), env[j]? = some (.own d) → σ[j]? ≠ some (some (.ref a))) (ho : OwR c H a d) : EnvR c H (env.set i (.own d)) (σ.set i (some (.ref a))) := by
  refine ⟨by simp [h.len], fun j s o e1 e2 => ?_, fun j k d' e' w e1 e2 e3 e4 => ?_⟩
  · by_cases hj : i = j
    · subst hj
      have h1 : i < env.length := by simpa using (List.getElem?_eq_some_iff.mp e1).1
      rw [List.getElem?_set_self h1] at e1
      rw [List.getElem?_set_self (by rw [← h.len]; exact h1)] at e2
      cases e1; cases e2
      exact ⟨a, rfl, ha, ho⟩
    · rw [List.getElem?_set_ne hj] at e1 e2
      exact h.at_ j s o e1 e2
  · have at1 : ∀ {l : Nat} {d''}, (env.set i (.own d))[l]? = some (.own d'') → (σ.set i (some (.ref a)))[l]? = some (some w) → (i = l ∧ w = .ref a) ∨ (i ≠ l ∧ env[l]? = some (.own d'') ∧ σ[l]? = some (some w)) := fun {l d''} q1 q2 => by
      by_cases z : i = l
      · subst z
        have h1 : i < σ.length := by simpa using (List.getElem?_eq_some_iff.mp q2).1
        rw [List.getElem?_set_self h1] at q2
        cases q2
        exact .inl ⟨rfl, rfl⟩
      · rw [List.getElem?_set_ne z] at q1 q2
        exact .inr ⟨z, q1, q2⟩
    rcases at1 e1 e3 with ⟨z1, z2⟩ | ⟨z1, z2, z3⟩ <;> rcases at1 e2 e4 with ⟨y1, y2⟩ | ⟨y1, y2, y3⟩
    · rw [← z1, ← y1]
    · rw [z2] at y3; exact absurd y3 (hn _ _ y2)
    · rw [y2] at z3; exact absurd z3 (hn _ _ z2)
    · exact h.inj j k d' e' w z2 y2 z3 y3
theorem OwR.monoW {c : RC} {a p : Addr} {u : HO} {d : D} (hp : p ∈ c.ω) (n : a ≠ p) (h : OwR c H a d) : OwR c (upd H p u) a d := by
  cases d with
  | lst ds => obtain ⟨vs, e, l⟩ := h; exact ⟨vs, by rw [upd_ne n]; exact e, DnL.monoW (c := c) (Xw.own hp) ds vs l⟩
  | dK kvs => obtain ⟨vs, e, l⟩ := h; exact ⟨vs, by rw [upd_ne n]; exact e, DnK.monoW (c := c) (Xw.own hp) kvs vs l⟩
  | dT kvs => obtain ⟨vs, e, l⟩ := h; exact ⟨vs, by rw [upd_ne n]; exact e, DnT.monoW (c := c) (Xw.own hp) kvs vs l⟩
  | _ => exact h.elim
/-- what slot i alone holds is changed -/
theorem EnvR.own_put {c : RC} {a : Addr} {d d' : D} {u : HO} {i : Nat} (h : EnvR c H env σ) (e1 : env[i]? = some (.own d)) (e2 : σ[i]? = some (some (.ref a))) (ha : a ∈ c.ω) (ho : OwR c (upd H a u) a d') : EnvR c (upd H a u) (env.set i (.own d')) σ := by
  have h1 : i < env.length := (List.getElem?_eq_some_iff.mp e1).1
  refine ⟨by simp [h.len], fun j s o q1 q2 => ?_, fun j k d1 d2 w q1 q2 q3 q4 => ?_⟩
  · by_cases hj : i = j
    · subst hj
      rw [List.getElem?_set_self h1] at q1
      cases q1
      rw [e2] at q2; cases q2
      exact ⟨a, rfl, ha, ho⟩
    · rw [List.getElem?_set_ne hj] at q1
      have z := h.at_ j s o q1 q2
      cases s with
      | no => exact True.intro
      | val d0 => obtain ⟨v, z1, z2⟩ := z; exact ⟨v, z1, Dn.monoW (c := c) (Xw.own ha) _ _ z2⟩
      | own d0 =>
        obtain ⟨b, z1, z2, z3⟩ := z
        have n : b ≠ a := fun z => by
          subst z
          subst z1
          exact hj (h.inj i j d d0 _ e1 q1 e2 q2)
        exact ⟨b, z1, z2, z3.monoW ha n⟩
  · have own : ∀ {l : Nat} {d'' : D}, (env.set i (.own d'))[l]? = some (.own d'') → ∃ d3, env[l]? = some (.own d3) := fun {l d''} q => by
      by_cases z : i = l
      · subst z; exact ⟨d, e1⟩
      · rw [List.getElem?_set_ne z] at q; exact ⟨d'', q⟩
    obtain ⟨d3, y1⟩ := own q1
    obtain ⟨d4, y2⟩ := own q2
    exact h.inj j k d3 d4 w y1 y2 q3 q4
theorem AtS.may {a : Addr} {d : D} {i : Nat} (t : AtS g e ρ ω H env σ m) (e1 : env[i]? = some (.own d)) (e2 : σ[i]? = some (some (.ref a))) : a ∈ ω ∧ (a ∈ e.π ∨ Fr0 e.H a) := by
  obtain ⟨b, q1, q2, _⟩ := rd_own t.he e1
  rw [e2] at q1
  cases q1
  refine ⟨q2, ?_⟩
  obtain ⟨π, h1, h2⟩ := t.ow
  have z : a ∈ ω := q2
  rw [h1] at z
  rcases List.mem_append.mp z with z | z
  · exact h2 a z
  · exact absurd z (t.fo i d a e1 e2)
theorem AtS.own_put {a : Addr} {d d' : D} {o u : HO} {i : Nat} (t : AtS g e ρ ω H env σ m) (e1 : env[i]? = some (.own d)) (e2 : σ[i]? = some (some (.ref a))) (eo : H a = some o) (to : ∀ ps, o ≠ .tbl ps) (hx : ∀ c q, o ≠ LamX.CodeO c q) (tu : ∀ ps, u ≠ .tbl ps) (ho : OwR (g.at ρ ω) (upd H a u) a d') :
    AtS g e ρ ω (upd H a u) (env.set i (.own d')) σ m := by
  obtain ⟨ha, hn⟩ := t.may e1 e2
  refine ⟨t.x.put hn tu, t.ow, t.he.own_put e1 e2 ha ho, t.hm.own_upd ha eo to hx tu, fun j d1 b q1 q2 => ?_⟩
  by_cases z : i = j
  · subst z; exact t.fo i d b e1 q2
  · rw [List.getElem?_set_ne z] at q1; exact t.fo j d1 b q1 q2
theorem AtS.set (a : AtS g e ρ ω H env σ m) (i : Nat) {d : D} {v : V} (hd : Dn (g.at ρ ω) H d v) : AtS g e ρ ω H (env.set i (.val d)) (σ.set i (some v)) m :=
  ⟨a.x, a.ow, a.he.set i hd, a.hm, fun j d1 b q1 q2 => by
    by_cases z : i = j
    · subst z
      have h1 : i < env.length := by simpa using (List.getElem?_eq_some_iff.mp q1).1
      rw [List.getElem?_set_self h1] at q1; cases q1
    · rw [List.getElem?_set_ne z] at q1 q2; exact a.fo j d1 b q1 q2⟩
mutual
theorem bindG_own : ∀ (gt : G) (d : D) (env env' : Env), bindG gt d env = some env' → ∀ (j : Nat) (d1 : D), env'[j]? = some (.own d1) → env[j]? = some (.own d1) ∧ j ∉ slots gt
  | .name i, d, env, env', h, j, d1, q => by
    unfold bindG at h
    split at h
    · rename_i hi
      cases h
      by_cases z : i = j
      · subst z; rw [List.getElem?_set_self hi] at q; cases q
      · rw [List.getElem?_set_ne z] at q
        exact ⟨q, by simp [slots]; exact fun z' => z z'.symm⟩
    · cases h
  | .tup gs, .tup ds, env, env', h, j, d1, q => bindGs_own gs ds env env' h j d1 q
  | .tup _, .non, _, _, h, _, _, _ => nomatch h
  | .tup _, .bl _, _, _, h, _, _, _ => nomatch h
  | .tup _, .int _, _, _, h, _, _, _ => nomatch h
  | .tup _, .str _, _, _, h, _, _, _ => nomatch h
  | .tup _, .lst _, _, _, h, _, _, _ => nomatch h
  | .tup _, .frz _, _, _, h, _, _, _ => nomatch h
  | .tup _, .dK _, _, _, h, _, _, _ => nomatch h
  | .tup _, .dT _, _, _, h, _, _, _ => nomatch h
  | .tup _, .ins _ _, _, _, h, _, _, _ => nomatch h
  | .tup _, .exc _ _, _, _, h, _, _, _ => nomatch h
  | .tup _, .fn _, _, _, h, _, _, _ => nomatch h
  | .tup _, .loc _, _, _, h, _, _, _ => nomatch h
theorem bindGs_own : ∀ (gs : List G) (ds : List D) (env env' : Env), bindGs gs ds env = some env' → ∀ (j : Nat) (d1 : D), env'[j]? = some (.own d1) → env[j]? = some (.own d1) ∧ j ∉ slotss gs
  | [], [], env, env', h, j, d1, q => by cases h; exact ⟨q, by simp [slotss]⟩
  | g :: gs, d :: ds, env, env', h, j, d1, q => by
    unfold bindGs at h
    obtain ⟨env1, h1, h2⟩ := Option.bind_eq_some_iff.mp h
    obtain ⟨q1, n1⟩ := bindGs_own gs ds env1 env' h2 j d1 q
    obtain ⟨q2, n2⟩ := bindG_own g d env env1 h1 j d1 q1
    exact ⟨q2, by simp [slotss]; exact ⟨n2, n1⟩⟩
  | [], _ :: _, _, _, h, _, _, _ => nomatch h
  | _ :: _, [], _, _, h, _, _, _ => nomatch h
end
theorem AtS.bound {gt : G} {d : D} {env' : Env} {σ' : L2.St} (a : AtS g e ρ ω H env σ m) (hb : bindG gt d env = some env') (he' : EnvR (g.at ρ ω) H env' σ') (ch : Chg (slots gt) σ σ') : AtS g e ρ ω H env' σ' m :=
  ⟨a.x, a.ow, he', a.hm, fun j d1 b q1 q2 => by
    obtain ⟨h1, h2⟩ := bindG_own gt d env env' hb j d1 q1
    rw [ch.2 j h2] at q2
    exact a.fo j d1 b h1 q2⟩
/-- nothing more is added to what slot i holds -/
theorem AtS.freeze {d : D} {i : Nat} (t : AtS g e ρ ω H env σ m) (e1 : env[i]? = some (.own d)) : ∃ ω', AtS g e ρ ω' H (env.set i (.val d)) σ m := by
  obtain ⟨a, e2, ha, ho⟩ := rd_own t.he e1
  have hi : i < env.length := (List.getElem?_eq_some_iff.mp e1).1
  have lo : ∀ b ∈ ω.filter (fun b => decide (b ≠ a)), b ∈ (g.at ρ ω).ω := fun b hb => (List.mem_filter.mp hb).1
  have na : a ∉ ω.filter (fun b => decide (b ≠ a)) := fun z => by simpa using (List.mem_filter.mp z).2
  refine ⟨ω.filter (fun b => decide (b ≠ a)), t.x, ?_, ?_, MemR.less lo t.hm, fun j d1 b q1 q2 => ?_⟩
  · obtain ⟨π, h1, h2⟩ := t.ow
    refine ⟨π.filter (fun b => decide (b ≠ a)), ?_, fun b hb => h2 b (List.mem_filter.mp hb).1⟩
    rw [h1, List.filter_append]
    congr 1
    exact List.filter_eq_self.mpr fun b hb => decide_eq_true fun z => t.fo i d a e1 e2 (z ▸ hb)
  · refine ⟨by simp [t.he.len], fun j s o q1 q2 => ?_, fun j k d1 d2 w q1 q2 q3 q4 => ?_⟩
    · by_cases z : i = j
      · subst z
        rw [List.getElem?_set_self hi] at q1
        cases q1
        rw [e2] at q2; cases q2
        exact ⟨_, rfl, OwR.dn ⟨t.hm.dj a ha, na⟩ (OwR.less lo ho)⟩
      · rw [List.getElem?_set_ne z] at q1
        have y := t.he.at_ j s o q1 q2
        cases s with
        | no => exact True.intro
        | val d0 => obtain ⟨v, z1, z2⟩ := y; exact ⟨v, z1, Dn.less lo _ _ z2⟩
        | own d0 =>
          obtain ⟨b, z1, z2, z3⟩ := y
          refine ⟨b, z1, List.mem_filter.mpr ⟨z2, decide_eq_true fun y => ?_⟩, OwR.less lo z3⟩
          subst y
          subst z1
          exact z (t.he.inj i j d d0 _ e1 q1 e2 q2)
    · have own : ∀ {l : Nat} {d'' : D}, (env.set i (.val d))[l]? = some (.own d'') → env[l]? = some (.own d'') := fun {l d''} q => by
        by_cases z : i = l
        · subst z; rw [List.getElem?_set_self hi] at q; cases q
        · rw [List.getElem?_set_ne z] at q; exact q
      exact t.he.inj j k d1 d2 w (own q1) (own q2) q3 q4
  · by_cases z : i = j
    · subst z; rw [List.getElem?_set_self hi] at q1; cases q1
    · rw [List.getElem?_set_ne z] at q1; exact t.fo j d1 b q1 q2
end Ev
end
section
set_option Elab.async false
set_option linter.all false
set_option maxRecDepth 100000
set_option maxHeartbeats 2000000
/-! Ev: the rules of statements. -/
namespace Ev
open PySem PySem.Spec PyProof.Rows L2
section
variable {X : Cx} {g : RC} {E : XK} {fs f : Env → M Out} {fe fi : Env → M D} {pos : Pos} {st : Stmt} {rest : List Stmt} {e : Expr}
def thenS (fs : Env → M Out) : Out → M Out := fun o => match o with
  | .nx env => fs env
  | o => ret o
theorem ss_nil : PSs X [] (rdS g (fun env => ret (.nx env)) E) := PSs.imp pss_nil fun D σ H ⟨t, ρ, ω, env, m, a, h⟩ => h ρ ω H σ a
theorem ss_cons (h1 : PS X st (rdS g f E)) (h2 : PSs X rest (rdS g fs E)) : PSs X (st :: rest) (rdS g (fun env => bnd (f env) (thenS fs)) E) :=
  PSs.imp (pss_cons h1 h2) fun D σ H ⟨t, ρ, ω, env, m, a, h⟩ => ⟨t, ρ, ω, env, m, a, by
    dsimp only [bnd] at h
    cases q : f env m with
    | bad => rw [q] at h; exact h.elim
    | exc C fl mm => rw [q] at h; exact h
    | ok o m1 =>
      rw [q] at h
      cases o with
      | nx env1 => exact fun ρ1 ω1 H1 σ1 a1 => ⟨t, ρ1, ω1, env1, m1, a1, h⟩
      | bk env1 => exact h
      | ct env1 => exact h
      | ret d => exact h⟩
theorem ss_pass : PS X (.Pass pos) (rdS g (fun env => ret (.nx env)) E) := PS.imp ps_pass fun D σ H ⟨t, ρ, ω, env, m, a, h⟩ => h ρ ω H σ a
theorem ss_doc {x j pos pos'} : PS X (.Expr (.Constant (.str x) j pos) pos') (rdS g (fun env => ret (.nx env)) E) := PS.imp ps_doc fun D σ H ⟨t, ρ, ω, env, m, a, h⟩ => h ρ ω H σ a
theorem ss_brk : PS X (.Break pos) (rdS g (fun env => ret (.bk env)) E) := PS.imp ps_break fun D σ H ⟨t, ρ, ω, env, m, a, h⟩ => h ρ ω H σ a
theorem ss_cont : PS X (.Continue pos) (rdS g (fun env => ret (.ct env)) E) := PS.imp ps_continue fun D σ H ⟨t, ρ, ω, env, m, a, h⟩ => h ρ ω H σ a
theorem ss_retN : PS X (.Return none pos) (rdS g (fun _ => ret (.ret .non)) E) := PS.imp ps_retN fun D σ H ⟨t, ρ, ω, env, m, a, h⟩ => h ρ H .non a.x rfl (MemR.less (c := g.at ρ ω) (ω' := t.ω) a.lo a.hm)
theorem ss_ret (he : PE X e (RdE g fe (WK E))) : PS X (.Return (some e) pos) (rdS g (fun env => bnd (fe env) fun x => ret (.ret x)) E) :=
  PS.imp (ps_ret he) fun D σ H ⟨t, ρ, ω, env, m, a, h⟩ => ⟨ρ, ω, env, m, a.he, a.hm, PostS.bind a h fun ρ1 H1 d v m1 a1 hd h1 =>
    h1 ρ1 H1 v a1.x (Dn.less (c := g.at ρ1 ω) (ω' := t.ω) a.lo d v hd) (MemR.less (c := g.at ρ1 ω) (ω' := t.ω) a.lo a1.hm)⟩
theorem ss_expr (he : PE X e (RdE g fe (WK E))) (hs : swapsWith e none pos.line X.env = pure false) : PS X (.Expr e pos) (rdS g (fun env => bnd (fe env) fun _ => ret (.nx env)) E) :=
  PS.imp (ps_expr he hs) fun D σ H ⟨t, ρ, ω, env, m, a, h⟩ => ⟨ρ, ω, env, m, a.he, a.hm, PostS.bind a h fun ρ1 H1 d v m1 a1 hd h1 => h1 ρ1 ω H1 σ a1⟩
/-- name = e, by the rule of stores: his is what the text's rule reads -/
theorem ss_set {i : Nat} (h : PS X st (tAsg (RdE g fe (WK E)) (gName i))) : PS X st (rdS g (fun env => bnd (fe env) fun x => setS env i (.val x)) E) :=
  PS.imp h fun D σ H ⟨t, ρ, ω, env, m, a, h⟩ => ⟨ρ, ω, env, m, a.he, a.hm, PostS.bind a h fun ρ1 H1 d v m1 a1 hd h1 => by
    unfold setS at h1
    split at h1
    · exact h1 ρ1 ω H1 _ (a1.set i hd)
    · exact h1.elim⟩
theorem ss_setOwn {i : Nat} (h : PS X st (tAsg (RdF g fe (WK E)) (gName i))) : PS X st (rdS g (fun env => bnd (fe env) fun x => setS env i (.own x)) E) :=
  PS.imp h fun D σ H ⟨t, ρ, ω, env, m, a, h⟩ => ⟨ρ, ω, env, m, a.he, a.hm, PostS.bindF a h fun ρ1 H1 d p m1 a1 np ho h1 => by
    unfold setS at h1
    split at h1
    · have pe : p ∉ t.ω := fun z => np (a.lo p z)
      refine h1 ρ1 (p :: ω) H1 _ ⟨a1.x, a1.ow, a1.he.own i List.mem_cons_self (fun j d' e1 e2 => ?_) ho, a1.hm, fun j d1 b q1 q2 => ?_⟩
      case refine_2 =>
        by_cases z : i = j
        · subst z
          have hj : i < σ.length := by simpa using (List.getElem?_eq_some_iff.mp q2).1
          rw [List.getElem?_set_self hj] at q2
          cases q2; exact pe
        · rw [List.getElem?_set_ne z] at q1 q2; exact a1.fo j d1 b q1 q2
      have hj := (List.getElem?_eq_some_iff.mp e1).1
      have o : ∃ b, σ[j]? = some (some (.ref b)) ∧ b ∈ ω := by
        obtain ⟨b, q1, q2, _⟩ := rd_own a.he e1
        exact ⟨b, q1, q2⟩
      obtain ⟨b, q1, q2⟩ := o
      rw [e2] at q1
      cases q1
      exact np q2
    · exact h1.elim⟩
theorem ss_asg {gt : G} {tg : Expr} (he : PE X e (RdE g fe (WK E))) (hg : PG X tg (RdG g gt)) (hs : swapsWithSole [tg] e pos.line X.env = pure false) (hw : swappedStores [tg] e X.env = pure none) (h1 : (assignEach [tg] X.env).map (·.2) = [assign tg X.env]) :
    PS X (.Assign [tg] e pos) (rdS g (fun env => bnd (fe env) fun x => match bindG gt x env with | some env => ret (.nx env) | none => stuck) E) :=
  PS.imp (ps_asg he hg hs hw h1) fun D σ H ⟨t, ρ, ω, env, m, a, h⟩ => ⟨ρ, ω, env, m, a.he, a.hm, PostS.bind a h fun ρ1 H1 d v m1 a1 hd h1 => by
    cases q : bindG gt d env with
    | none => rw [q] at h1; exact h1.elim
    | some env2 =>
      rw [q] at h1
      exact ⟨ρ1, ω, env, m1, d, env2, a1.he, a1.hm, hd, q, fun σ' he' ch => h1 ρ1 ω H1 σ' (a1.bound q he' ch)⟩⟩
/-- a, b = x, y -/
theorem ss_par {i j : Nat} {fa : Env → M (List D)} (h : PS X st (tPar i j (RdA g fa (WK E)))) : PS X st (rdS g (fun env => bnd (fa env) fun xs => match parS [i, j] xs env with | some env => ret (.nx env) | none => stuck) E) :=
  PS.imp h fun D σ H ⟨t, ρ, ω, env, m, a, h⟩ => ⟨ρ, ω, env, m, a.he, a.hm, PostS.bind a h fun ρ1 H1 ds vs m1 a1 hd h1 => by
    match ds, vs, hd, h1 with
    | [d1, d2], [v1, v2], ⟨k1, k2, _⟩, h1 =>
      simp only [parS] at h1
      by_cases q1 : i < env.length
      · by_cases q2 : j < (env.set i (.val d1)).length
        · rw [if_pos q1, if_pos q2] at h1
          exact ⟨v1, v2, rfl, h1 ρ1 ω H1 _ ((a1.set i k1).set j k2)⟩
        · rw [if_pos q1, if_neg q2] at h1; exact h1.elim
      · rw [if_neg q1] at h1; exact h1.elim
    | [], _, _, h1 => exact h1.elim
    | [d1], _, _, h1 =>
      simp only [parS] at h1
      by_cases q1 : i < env.length
      · rw [if_pos q1] at h1; exact h1.elim
      · rw [if_neg q1] at h1; exact h1.elim
    | d1 :: d2 :: d3 :: ds, _, _, h1 =>
      simp only [parS] at h1
      by_cases q1 : i < env.length
      · by_cases q2 : j < (env.set i (.val d1)).length
        · rw [if_pos q1, if_pos q2] at h1; exact h1.elim
        · rw [if_pos q1, if_neg q2] at h1; exact h1.elim
      · rw [if_neg q1] at h1; exact h1.elim
    | [_, _], [], hd, _ => exact hd.elim
    | [_, _], [_], hd, _ => exact hd.2.elim
    | [_, _], _ :: _ :: _ :: _, hd, _ => exact hd.2.2.elim⟩
theorem asBool_S {r : M D} {m : Mem} {f : Bool → M Out} {t : Ent} {ρ ω : List Addr} {H : Hp} {env : Env} {σ : L2.St} {m0 : Mem} {D : Ends} {Q : Bool → Hp → Prop} (a : AtS g t ρ ω H env σ m0) (h : PostS g t (bnd (asBool r) f m) D E)
    (k : ∀ ρ1 H1 b m1, AtS g t ρ1 ω H1 env σ m1 → PostS g t (f b m1) D E → Q b H1) : PostG Dn (g.at ρ ω) H (r m) (fun v H' => ∃ b, v = .bl b ∧ Q b H') E := by
  unfold asBool at h
  dsimp only [bnd] at h
  cases q : r m with
  | bad => rw [q] at h; exact h.elim
  | exc C fl mm => rw [q] at h; exact PostS.exc a h
  | ok d m1 =>
    rw [q] at h
    dsimp only [Res.bind] at h
    cases d with
    | bl b => exact fun ρ1 H1 v x hd hm => ⟨b, hd, k ρ1 H1 b m1 (a.step x hm) h⟩
    | _ => exact h.elim
theorem ss_if {c : Expr} {sa sb : List Stmt} {fc : Env → M D} {ga gb : Env → M Out} (hc : PT X c (RdT g fc (WK E))) (ha : PSs X sa (rdS g ga E)) (hb : PSs X sb (rdS g gb E)) :
    PS X (.If c sa sb pos) (rdS g (fun env => bnd (asBool (fc env)) fun k => if k = true then ga env else gb env) E) :=
  PS.imp (ps_if hc ha hb) fun D σ H ⟨t, ρ, ω, env, m, a, h⟩ => ⟨ρ, ω, env, m, a.he, a.hm, asBool_S a h fun ρ1 H1 b m1 a1 h1 => by
    cases b with
    | true => rw [if_pos rfl] at h1 ⊢; exact ⟨t, ρ1, ω, env, m1, a1, h1⟩
    | false => rw [if_neg Bool.false_ne_true] at h1 ⊢; exact ⟨t, ρ1, ω, env, m1, a1, h1⟩⟩
def frzS (i : Nat) (env : Env) : M Out := match env[i]? with
  | some (.own d) => ret (.nx (env.set i (.val d)))
  | _ => ret (.nx env)
theorem ss_freeze {sts : List Stmt} {i : Nat} (h : PSs X sts (rdS g fs E)) : PSs X sts (rdS g (fun env => bnd (frzS i env) (thenS fs)) E) :=
  PSs.imp h fun D σ H ⟨t, ρ, ω, env, m, a, h⟩ => by
    have fin : frzS i env = ret (.nx env) → rdS g fs E D σ H := fun q => by
      dsimp only [bnd] at h
      rw [q] at h
      exact ⟨t, ρ, ω, env, m, a, h⟩
    unfold frzS at fin
    cases q : env[i]? with
    | none => rw [q] at fin; exact fin rfl
    | some sl =>
      cases sl with
      | own d =>
        obtain ⟨ω', a'⟩ := a.freeze q
        have q2 : frzS i env = ret (.nx (env.set i (.val d))) := by unfold frzS; rw [q]
        dsimp only [bnd] at h
        rw [q2] at h
        exact ⟨t, ρ, ω', _, m, a', h⟩
      | _ => rw [q] at fin; exact fin rfl
/-! ### own lists, dicts -/
theorem rSub_or {X : Cx} {r r' : V → V → V → Hp → (Hp → Prop) → Prop} (h : PSet X r) (h' : PSet X r') : PSet X (fun o i v H Q => r o i v H Q ∨ r' o i v H Q) := fun pins s σ H o i v ov iv u Q I ro ri rv hh =>
  hh.elim (h pins s σ H o i v ov iv u Q I ro ri rv) (h' pins s σ H o i v ov iv u Q I ro ri rv)
def appS (i : Nat) (z : D) (env : Env) : M Out := match env[i]? with
  | some (.own (.lst xs)) => if xs.length < line then ret (.nx (env.set i (.own (.lst (xs ++ [z]))))) else stuck
  | _ => stuck
def ownL (env : Env) (i : Nat) : Bool := match env[i]? with
  | some (.own (.lst _)) => true
  | _ => false
theorem ownL_at {env : Env} {i : Nat} (h : ownL env i = true) : ∃ xs, env[i]? = some (.own (.lst xs)) := by
  unfold ownL at h
  split at h
  · rename_i xs q; exact ⟨xs, q⟩
  · cases h
theorem guardS {k : Bool} {x : M Out} {t : Ent} {m : Mem} {D : Ends} (h : PostS g t (guardM k x m) D E) : k = true ∧ PostS g t (x m) D E := by
  unfold guardM at h
  cases k with
  | true => exact ⟨rfl, h⟩
  | false => exact h.elim
theorem ss_app {i : Nat} {o : Expr} {apos cpos : Pos} (ho : PE X o (tVar i)) (he : PE X e (RdE g fe (WK E)))
    (hbase : attributeBase o "append" X.env (eval o X.env) = eval o X.env)
    (hfew : ((backTo cpos (starEach [e] X.env)).all (fun x => !x.1) && (backToKw cpos (keywordEach [] X.env)).all (fun x => x.1.isSome)
      && decide (([e] : List Expr).length + ([] : List Keyword).length + (if ([] : List Keyword).isEmpty then 0 else 1) < 30)) = true)
    (hline : (apos.endLine == cpos.line) = true) (hs : starEach [e] X.env = (false, eval e X.env) :: starEach [] X.env) (hplain : (backTo cpos (starEach [] X.env)).any (·.1) = false)
    (hsw : swapsWith (.Call (.Attribute o "append" apos) [e] [] cpos) none pos.line X.env = pure false) :
    PS X (.Expr (.Call (.Attribute o "append" apos) [e] [] cpos) pos) (rdS g (fun env => guardM (ownL env i) (bnd (fe env) fun z => appS i z env)) E) :=
  PS.imp (ps_expr (pe_bm PySem.F.plainAttrs_list PySem.F.slot_list_append PySem.F.type_list_append mt_append ho (pa_cons he pa_nil hs) hbase hfew hline hs hplain) hsw) fun D σ H ⟨t, ρ, ω, env, m, a, h⟩ => by
    obtain ⟨hg, h⟩ := guardS h
    obtain ⟨xs, q⟩ := ownL_at hg
    obtain ⟨p, e1, hp, ws, eo, lo⟩ := rd_own a.he q
    refine ⟨.ref p, e1, .inl ⟨rfl, _, SqL.of eo⟩, ρ, ω, env, m, a.he, a.hm, PostS.bind a h fun ρ1 H1 d v m1 a1 hd h1 => ?_⟩
    obtain ⟨p', e1', hp', vs, eo', lo'⟩ := rd_own a1.he q
    rw [e1] at e1'
    cases e1'
    unfold appS at h1
    rw [q] at h1
    dsimp only at h1
    by_cases hlen : xs.length < line
    · rw [if_pos hlen] at h1
      refine ⟨p, vs, v, rfl, rfl, eo', by rw [← lo'.length, ← line_eq]; exact hlen, h1 ρ1 ω _ σ (a1.own_put q e1 eo' (fun ps z => nomatch z) lst_code (fun ps z => nomatch z) ⟨_, upd_same, ?_⟩)⟩
      exact DnL.monoW (c := g.at ρ1 ω) (Xw.own hp') _ _ (lo'.append (DnL.one hd))
    · rw [if_neg hlen] at h1; exact h1.elim
end
end Ev
end
section
set_option Elab.async false
set_option linter.all false
set_option maxRecDepth 100000
set_option maxHeartbeats 2000000
/-! Ev: stores to subscripts, loops. -/
namespace Ev
open PySem PySem.Spec PyProof.Rows L2
theorem setK_K {c : RC} {H : Hp} {k : Key} {z : D} {v : V} (hz : Dn c H z v) : ∀ {kvs : List (Key × D)} {ws : List (Key × V)}, DnK c H kvs ws → DnK c H (setK kvs k z) (putK ws k v) := by
  intro kvs ws h
  have an : ∀ {kvs : List (Key × D)} {ws : List (Key × V)}, DnK c H kvs ws → (kvs.any fun kv => decide (kv.1 = k)) = (ws.any fun kv => decide (kv.1 = k)) := by
    intro kvs
    induction kvs with
    | nil => intro ws h; cases ws with
      | nil => rfl
      | cons => exact h.elim
    | cons p kvs ih => intro ws h; cases ws with
      | nil => exact h.elim
      | cons q ws => obtain ⟨e, _, t⟩ := h; rw [List.any_cons, List.any_cons, ih t, e]
  have mp : ∀ {kvs : List (Key × D)} {ws : List (Key × V)}, DnK c H kvs ws → DnK c H (kvs.map fun kv => if kv.1 = k then (kv.1, z) else kv) (ws.map fun kv => if kv.1 = k then (kv.1, v) else kv) := by
    intro kvs
    induction kvs with
    | nil => intro ws h; cases ws with
      | nil => exact True.intro
      | cons => exact h.elim
    | cons p kvs ih => intro ws h; cases ws with
      | nil => exact h.elim
      | cons q ws =>
        obtain ⟨e, hd, t⟩ := h
        rw [List.map_cons, List.map_cons]
        by_cases w : p.1 = k
        · rw [if_pos w, if_pos (show q.1 = k from e ▸ w)]; exact ⟨e, hz, ih t⟩
        · rw [if_neg w, if_neg (show ¬ q.1 = k from e ▸ w)]; exact ⟨e, hd, ih t⟩
  have ap : ∀ {kvs : List (Key × D)} {ws : List (Key × V)}, DnK c H kvs ws → DnK c H (kvs ++ [(k, z)]) (ws ++ [(k, v)]) := by
    intro kvs
    induction kvs with
    | nil => intro ws h; cases ws with
      | nil => exact ⟨rfl, hz, True.intro⟩
      | cons => exact h.elim
    | cons p kvs ih => intro ws h; cases ws with
      | nil => exact h.elim
      | cons q ws => obtain ⟨e, hd, t⟩ := h; exact ⟨e, hd, ih t⟩
  unfold setK putK
  rw [an h]
  split
  · exact mp h
  · exact ap h
theorem DnK.length {c : RC} {H : Hp} : ∀ {kvs : List (Key × D)} {ws : List (Key × V)}, DnK c H kvs ws → kvs.length = ws.length
  | [], [], _ => rfl
  | _ :: _, _ :: _, ⟨_, _, t⟩ => congrArg (· + 1) (DnK.length t)
  | [], _ :: _, h => h.elim
  | _ :: _, [], h => h.elim
def putO (j : Nat) (y z : D) (env : Env) : M Out := match y, env[j]? with
  | .int k, some (.own (.lst xs)) => match ixN xs.length k with
    | some n => ret (.nx (env.set j (.own (.lst (xs.set n z)))))
    | none => stuck
  | _, _ => stuck
def putM (x y z : D) (m : Mem) : Option Mem := match x with
  | .loc l => match m[l]? with
    | some (.lst xs) => match y with
      | .int k => (ixN xs.length k).map fun n => m.set l (.lst (xs.set n z))
      | _ => none
    | some (.dK kvs) => (keyOf y).bind fun k => if kvs.length < line then some (m.set l (.dK (setK kvs k z))) else none
    | _ => none
  | _ => none
def putL (x y z : D) (env : Env) : M Out := fun m => match putM x y z m with
  | some m => .ok (.nx env) m
  | none => .bad
/-- a store to a place, by data -/
def rSetG : TSet := fun o i v H Q => rSetL o i v H Q ∨ rSetD o i v H Q
theorem set_all {X : Cx} (hu : X.A.units + 1 < cLine) : PSet X rSetG := rSub_or set_list (set_dict hu)
section
variable {X : Cx} {g : RC} {E : XK} {fs f fb : Env → M Out} {fe fi fo : Env → M D} {pos pos2 : Pos} {st : Stmt} {rest : List Stmt} {e i o : Expr}
theorem AtS.putM {t : Ent} {ρ ω : List Addr} {H : Hp} {env : Env} {σ : L2.St} {m : Mem} {l : Nat} {p : Addr} {ou u : HO} {mo : MO} (a : AtS g t ρ ω H env σ m) (e : ρ[l]? = some p) (ep : H p = some ou) (to : ∀ ps, ou ≠ .tbl ps) (hx : ∀ c q, ou ≠ LamX.CodeO c q) (tu : ∀ ps, u ≠ .tbl ps) (hr : MoR (g.at ρ ω) (upd H p u) p mo) :
    AtS g t ρ ω (upd H p u) env σ (m.set l mo) := by
  have x : Xt (g.at ρ ω) H ρ (upd H p u) := Xt.put (List.mem_of_getElem? e) tu
  exact a.step x (a.hm.put e ep to hx tu hr)
theorem ss_setO {j : Nat} (he : PE X e (RdE g fe (WK E))) (ho : PE X o (tVar j)) (hi : PE X i (RdE g fi (WK E))) (hu : X.A.units + 1 < cLine)
    (ha : ∀ v, assign (.Subscript o i pos2) X.env v = (do
      let ov ← holding [v] (eval o X.env)
      let iv ← holding [v, ov] (eval i X.env)
      standAt pos2
      holding [v, ov, iv] (setItem ov iv v)
      release [v, ov, iv] []))
    (hs : swapsWithSole [.Subscript o i pos2] e pos.line X.env = pure false) (hw : swappedStores [.Subscript o i pos2] e X.env = pure none) (h1 : (assignEach [.Subscript o i pos2] X.env).map (·.2) = [assign (.Subscript o i pos2) X.env]) :
    PS X (.Assign [.Subscript o i pos2] e pos) (rdS g (fun env => guardM (ownL env j) (bnd (fe env) fun z => bnd (fi env) fun y => putO j y z env)) E) :=
  PS.imp (ps_asg he (pg_sub ho hi (set_all hu) ha) hs hw h1) fun D σ H ⟨t, ρ, ω, env, m, a, h⟩ => by
    obtain ⟨hg, h⟩ := guardS h
    obtain ⟨xs, q⟩ := ownL_at hg
    refine ⟨ρ, ω, env, m, a.he, a.hm, PostS.bindX a h fun ρ1 H1 z v m1 x1 a1 hz h1 => ?_⟩
    obtain ⟨p, e1, hp, ws, eo, lo⟩ := rd_own a1.he q
    refine ⟨.ref p, e1, ρ1, ω, env, m1, a1.he, a1.hm, PostS.bindX a1 h1 fun ρ2 H2 dy y m2 x2 a2 hy h2 => ?_⟩
    obtain ⟨p', e1', hp', vs, eo', lo'⟩ := rd_own a2.he q
    rw [e1] at e1'
    cases e1'
    unfold putO at h2
    rw [q] at h2
    cases dy with
    | int k =>
      dsimp only at h2
      cases q3 : ixN xs.length k with
      | none => rw [q3] at h2; exact h2.elim
      | some n =>
        rw [q3] at h2
        refine .inl ⟨p, vs, k, n, rfl, hy, eo', by rw [← lo'.length]; exact q3, h2 ρ2 ω _ σ (a2.own_put q e1 eo' (fun ps z => nomatch z) lst_code (fun ps z => nomatch z) ⟨_, upd_same, ?_⟩)⟩
        exact DnL.monoW (c := g.at ρ2 ω) (Xw.own hp') _ _ (DnL.set (Dn.mono x2 _ _ hz) n lo')
    | _ => exact h2.elim
theorem putM_at {x y z : D} {m m' : Mem} (h : putM x y z m = some m') : ∃ l, x = .loc l ∧ ((∃ xs k n, m[l]? = some (.lst xs) ∧ y = .int k ∧ ixN xs.length k = some n ∧ m' = m.set l (.lst (xs.set n z))) ∨
    ∃ kvs k, m[l]? = some (.dK kvs) ∧ keyOf y = some k ∧ kvs.length < line ∧ m' = m.set l (.dK (setK kvs k z))) := by
  unfold putM at h
  cases x with
  | loc l =>
    dsimp only at h
    refine ⟨l, rfl, ?_⟩
    cases q : m[l]? with
    | none => rw [q] at h; cases h
    | some o =>
      rw [q] at h
      cases o with
      | lst xs =>
        cases y with
        | int k =>
          obtain ⟨n, e1, rfl⟩ := Option.map_eq_some_iff.mp h
          exact .inl ⟨xs, k, n, rfl, rfl, e1, rfl⟩
        | _ => cases h
      | dK kvs =>
        obtain ⟨k, e1, e2⟩ := Option.bind_eq_some_iff.mp h
        split at e2
        · rename_i hl; cases e2; exact .inr ⟨kvs, k, rfl, e1, hl, rfl⟩
        · cases e2
      | ins C fs => cases h
  | _ => cases h
theorem ss_setL (he : PE X e (RdE g fe (WK E))) (ho : PE X o (RdE g fo (WK E))) (hi : PE X i (RdE g fi (WK E))) (hu : X.A.units + 1 < cLine)
    (ha : ∀ v, assign (.Subscript o i pos2) X.env v = (do
      let ov ← holding [v] (eval o X.env)
      let iv ← holding [v, ov] (eval i X.env)
      standAt pos2
      holding [v, ov, iv] (setItem ov iv v)
      release [v, ov, iv] []))
    (hs : swapsWithSole [.Subscript o i pos2] e pos.line X.env = pure false) (hw : swappedStores [.Subscript o i pos2] e X.env = pure none) (h1 : (assignEach [.Subscript o i pos2] X.env).map (·.2) = [assign (.Subscript o i pos2) X.env]) :
    PS X (.Assign [.Subscript o i pos2] e pos) (rdS g (fun env => bnd (fe env) fun z => bnd (fo env) fun x => bnd (fi env) fun y => putL x y z env) E) :=
  PS.imp (ps_asg he (pg_sub ho hi (set_all hu) ha) hs hw h1) fun D σ H ⟨t, ρ, ω, env, m, a, h⟩ => by
    refine ⟨ρ, ω, env, m, a.he, a.hm, PostS.bindX a h fun ρ1 H1 z v m1 x1 a1 hz h1 => ?_⟩
    refine ⟨ρ1, ω, env, m1, a1.he, a1.hm, PostS.bindX a1 h1 fun ρ2 H2 dx x m2 x2 a2 hx h2 => ?_⟩
    refine ⟨ρ2, ω, env, m2, a2.he, a2.hm, PostS.bindX a2 h2 fun ρ3 H3 dy y m3 x3 a3 hy h3 => ?_⟩
    unfold putL at h3
    cases q : putM dx dy z m3 with
    | none => rw [q] at h3; exact h3.elim
    | some m4 =>
      rw [q] at h3
      have hz3 : Dn (g.at ρ3 ω) H3 z v := Dn.mono x3 _ _ (Dn.mono x2 _ _ hz)
      obtain ⟨l, rfl, c⟩ := putM_at q
      obtain ⟨p, e1, rfl⟩ := Dn.mono x3 _ _ hx
      have ep : p ∈ (g.at ρ3 ω).ρ := List.mem_of_getElem? e1
      rcases c with ⟨xs, k, n, e2, rfl, e3, rfl⟩ | ⟨kvs, k, e2, e3, hl, rfl⟩
      · obtain ⟨vs, k1, k2⟩ := a3.hm.at_ l p _ e1 e2
        refine .inl ⟨p, vs, k, n, rfl, hy, k1, by rw [← k2.length]; exact e3, h3 ρ3 ω _ σ (a3.putM e1 k1 (fun ps z => nomatch z) lst_code (fun ps z => nomatch z) ⟨_, upd_same, ?_⟩)⟩
        exact DnL.mono (c := g.at ρ3 ω) (Xt.put (u := .lst (vs.set n v)) ep (fun ps z => nomatch z)) _ _ (DnL.set hz3 n k2)
      · obtain ⟨ws, k1, k2⟩ := a3.hm.at_ l p _ e1 e2
        have ey := keyOf_kV hy.weak.see e3
        rw [ey]
        refine .inr ⟨p, _, rfl, DPut.k k1 (by rw [← k2.length, ← line_eq]; exact hl), h3 ρ3 ω _ σ (a3.putM e1 k1 (fun ps z => nomatch z) (fun c q z => by unfold LamX.CodeO at z; cases z) (fun ps z => nomatch z) ⟨_, upd_same, ?_⟩)⟩
        exact DnK.mono (c := g.at ρ3 ω) (Xt.put (u := .dK (putK ws k v)) ep (fun ps z => nomatch z)) _ _ (setK_K hz3 k2)
/-! ### loops -/
theorem ss_for {tg iter : Expr} {body : List Stmt} {gt : G} {fi : Env → M (List D)} (hp : PassesOwn (model X.prog X.w) X.A X.env X.xe) (hc : X.calm = true) (hi : PI X tg iter (RdI false g fi (WK E))) (hg : PG X tg (RdG g gt)) (hb : PSs X body (rdS g fb E)) (hs : ∀ x, foldedSetIterable iter X.env x = pure x) :
    PS X (.For tg iter body [] pos) (rdS g (fun env => bnd (fi env) fun ds => forLoop (fun d env => bindG gt d env) fb ds env) E) :=
  PS.imp (ps_for hp hc hi hg hb hs) fun D σ H ⟨t, ρ, ω, env, m, a, h⟩ => ⟨ρ, ω, env, m, a.he, a.hm, PostS.bindI a h fun ρ1 H1 J its m1 a1 ho hy h1 => by
    have h1 := PostS.here a1 h1
    refine ⟨fun i k σ2 H2 => k = its.length - i ∧ i ≤ its.length ∧ ∃ ρ2 ω2 env2 m2, AtS g (AtS.ent t ρ1 ω H1) ρ2 ω2 H2 env2 σ2 m2 ∧ PostS g (AtS.ent t ρ1 ω H1) (forLoop (fun d env => bindG gt d env) fb ((its.map Itm.D).drop i) env2 m2) D E,
      ⟨its.length, by simp, Nat.zero_le _, ρ1, ω, env, m1, a1.here, h1⟩, ?_⟩
    rintro i k σ2 H2 ⟨rfl, hi, ρ2, ω2, env2, m2, a2, h2⟩
    have kp : Kept (Xi false ρ1 ω) H1 H2 := fun b o e n nt => a2.x.keep b o e (fun z => n (.inl z)) (fun z => n (.inr ⟨rfl, by rw [a1.ent_ω]; exact List.mem_append_left _ z⟩)) nt
    by_cases hlt : i < its.length
    · obtain ⟨it, hit⟩ : ∃ it, its[i]? = some it := ⟨_, List.getElem?_eq_getElem hlt⟩
      have hds : (its.map Itm.D).drop i = it.D :: (its.map Itm.D).drop (i + 1) := by
        rw [List.drop_eq_getElem_cons (by simpa using hlt)]
        congr 1
        rw [List.getElem_map]
        exact congrArg Itm.D (Option.some.inj ((List.getElem?_eq_getElem hlt).symm.trans hit))
      rw [hds, forLoop] at h2
      have ok2 : it.ok (g.at ρ2 ω2) H2 := Itm.go (a1.goes a2) (ho it (List.mem_of_getElem? hit))
      refine .inr ⟨hy.go i H2 kp hlt, fun σ3 H3 => ∃ ρ3 ω3 env3 m3, AtS g (AtS.ent t ρ1 ω H1) ρ3 ω3 H3 env3 σ3 m3 ∧ PostS g (AtS.ent t ρ1 ω H1) (forLoop (fun d env => bindG gt d env) fb ((its.map Itm.D).drop (i + 1)) env3 m3) D E,
        fun σ3 H3 h3 => ⟨its.length - (i + 1), by omega, rfl, hlt, h3⟩, fun x H' hx => ?_⟩
      obtain ⟨hgrow, hd⟩ := Itm.dn a2.hm ok2 (hy.yld i H2 x H' kp hx it hit)
      have a3 : AtS g (AtS.ent t ρ1 ω H1) ρ2 ω2 H' env2 σ2 m2 := by
        rcases hgrow with rfl | ⟨p, o, n, rfl⟩
        · exact a2
        · exact a2.step (Xt.laid n) (a2.hm.laid n)
      cases q : bindG gt it.D env2 with
      | none => rw [q] at h2; exact h2.elim
      | some env3 =>
        rw [q] at h2
        refine ⟨ρ2, ω2, env2, m2, it.D, env3, a3.he, a3.hm, hd, q, fun σ' he' ch => ?_⟩
        refine ⟨AtS.ent t ρ1 ω H1, ρ2, ω2, env3, m2, a3.bound q he' ch, ?_⟩
        dsimp only [bnd] at h2
        cases q2 : fb env3 m2 with
        | bad => rw [q2] at h2; exact h2.elim
        | exc C fl mm => rw [q2] at h2; exact h2
        | ok o m4 =>
          rw [q2] at h2
          cases o with
          | nx env4 => exact fun ρ4 ω4 H4 σ4 a4 => ⟨ρ4, ω4, env4, m4, a4, h2⟩
          | ct env4 => exact fun ρ4 ω4 H4 σ4 a4 => ⟨ρ4, ω4, env4, m4, a4, h2⟩
          | bk env4 => exact h2
          | ret d => exact h2
    · have e : i = its.length := by omega
      subst e
      rw [List.drop_of_length_le (by simp), forLoop] at h2
      exact .inl ⟨hy.stop H2 kp, h2 ρ2 ω2 H2 σ2 a2⟩⟩
theorem ss_while {c : Expr} {body : List Stmt} {fc : Env → M D} (n : Nat) (hp : PassesOwn (model X.prog X.w) X.A X.env X.xe) (hc : PT X c (RdT g fc (WK E))) (hb : PSs X body (rdS g fb E)) :
    PS X (.While c body [] pos) (rdS g (fun env => whileLoop (fun env => asBool (fc env)) fb n env) E) :=
  PS.imp (ps_while hp hc hb) fun D σ H ⟨t, ρ, ω, env, m, a, h⟩ => by
    refine ⟨fun k σ2 H2 => ∃ ρ2 ω2 env2 m2, AtS g t ρ2 ω2 H2 env2 σ2 m2 ∧ PostS g t (whileLoop (fun env => asBool (fc env)) fb k env2 m2) D E, ⟨n, ρ, ω, env, m, a, h⟩, ?_⟩
    rintro k σ2 H2 ⟨ρ2, ω2, env2, m2, a2, h2⟩
    cases k with
    | zero => exact h2.elim
    | succ k =>
      rw [whileLoop] at h2
      refine ⟨ρ2, ω2, env2, m2, a2.he, a2.hm, asBool_S a2 h2 fun ρ3 H3 b m3 a3 h3 => ?_⟩
      cases b with
      | false => rw [if_neg Bool.false_ne_true] at h3 ⊢; exact h3 ρ3 ω2 H3 σ2 a3
      | true =>
        rw [if_pos rfl] at h3 ⊢
        refine ⟨fun σ4 H4 => ∃ ρ4 ω4 env4 m4, AtS g t ρ4 ω4 H4 env4 σ4 m4 ∧ PostS g t (whileLoop (fun env => asBool (fc env)) fb k env4 m4) D E, fun σ4 H4 h4 => ⟨k, Nat.lt_succ_self _, h4⟩, t, ρ3, ω2, env2, m3, a3, ?_⟩
        dsimp only [bnd] at h3
        cases q2 : fb env2 m3 with
        | bad => rw [q2] at h3; exact h3.elim
        | exc C fl mm => rw [q2] at h3; exact h3
        | ok o m4 =>
          rw [q2] at h3
          cases o with
          | nx env4 => exact fun ρ4 ω4 H4 σ4 a4 => ⟨ρ4, ω4, env4, m4, a4, h3⟩
          | ct env4 => exact fun ρ4 ω4 H4 σ4 a4 => ⟨ρ4, ω4, env4, m4, a4, h3⟩
          | bk env4 => exact h3
          | ret d => exact h3
end
end Ev
end
section
set_option Elab.async false
set_option linter.all false
set_option maxRecDepth 100000
set_option maxHeartbeats 2000000
/-! Ev: a def holds its promise. -/
namespace Ev
open PySem PySem.Spec PyProof.Rows L2
section
variable {P : Program} {w : World} {K : PySem.W.Frag} {mg : Str → Option Value} {base : Heap} {gd : Bool} {k : Nat} {f : Addr} {name qual : Str} {params : Arguments} {body : List Stmt} {scope : Scope}
  {dV kV doc pm cdv ct oc : Value} {an od : Option Addr} {osl : Array (Option Value)} {N ps : List Str} {sp : Sp}
/-- a body's context -/
abbrev bodyX (P : Program) (w : World) (K : PySem.W.Frag) (mg : Str → Option Value) (base : Heap) (N : List Str) (qual : Str) (scope : Scope) (f : Addr) (cdv : Value) (A : Around) (outer : List PySem.Env) (s : Shared) (H : Hp) (E : XK) : Cx :=
  cxOf (L2.CX P w) P w K mg base N qual scope f cdv A outer s H E
theorem FnG.of (lk : K.lookup f = some ⟨oc, od, .func (PySem.W.fnOf name qual params body scope dV kV doc pm an cdv ct), osl⟩) (hcd : PySem.W.codeIn K cdv qual = true) (S : FnScope N ps scope) (len : ∀ vs H Q E, sp vs H Q E → vs.length = ps.length)
    (hbody : ∀ A outer s H vs Q E, Room k (bodyX P w K mg base N qual scope f cdv A outer s H E).A → (gd = true → (bodyX P w K mg base N qual scope f cdv A outer s H E).A.guards = some []) → sp vs H Q E →
      ∃ t, PSs (bodyX P w K mg base N qual scope f cdv A outer s H E) body t ∧ t { nx := fun _ H' => Q .non H', rt := Q } (L2.start N vs) H) :
    FnG P w K mg base gd (k + 1) f (PySem.W.fnOf name qual params body scope dV kV doc pm an cdv ct) ps sp := by
  refine ⟨len, fun A outer s H args us vs Q E hr hgd e0 hb r hsp => ?_⟩
  have KX : K.In s.heap := e0.mod.kin.keeps fun b o q => (e0.bs b o q).1
  have hkind : ∀ y ∈ ps.zip us, scope.names.lookup y.1 = some .local ∨ (scope.names.lookup y.1 = some .cell ∧ ((cellsFrom (s.heap.objs.size + 1) scope.names []).lookup y.1).isSome = true) := fun y hy =>
    (S.par y.1 (List.of_mem_zip (a := y.1) (b := y.2) hy).1).imp id fun q => ⟨q, PySem.W.cellsFrom_some _ _ _ (.inl q)⟩
  refine codeAny_call_function hr.depth (KX _ _ lk) rfl S.co S.gen rfl (PySem.W.codeRec_of KX hcd) (hb _ _ _ _ (wpAny_newFunctionEnv_cells S.kind hkind fun env he s1 x => ?_))
  subst he
  refine ⟨(e0.mod.nolimit.keeps fun b o q => (e0.bs b o q).1).keeps x.toInCall.keep, codeAny_func ?_⟩
  obtain ⟨t, ht, hq⟩ := hbody A outer s H vs Q E (hr.deeper _) (fun z => by show (A.deeper _).guards = some []; exact hgd z) hsp
  have I := inv_start (CX := L2.CX P w) (E := E) (cd := cdv) (f := f) (qual := qual) S hr.hd e0 (len vs H Q E hsp) r x
  refine wpAny_mono (ht.run [] s1 (L2.start N vs) H _ I hq) (fun fl s' hs => ?_) fun e s' hs => hs
  match fl, hs with
  | .ret u, ⟨v, σ', H', J, rv, q⟩ => exact ⟨v, H', J.os, J.bare, J.base, J.hok, rv, q⟩
  | .next, ⟨σ', H', J, q⟩ => exact ⟨.non, H', J.os, J.bare, J.base, J.hok, rfl, q⟩
  | .brk, ⟨_, _, _, q⟩ => exact q.elim
  | .cont, ⟨_, _, _, q⟩ => exact q.elim
theorem takes_body {A : Around} {outer : List PySem.Env} {s : Shared} {H : Hp} {E : XK} : Takes (bodyX P w K mg base N qual scope f cdv A outer s H E) (WK E) := takes_of rfl rfl rfl rfl
theorem own_body {A : Around} {outer : List PySem.Env} {s : Shared} {H : Hp} {E : XK} : PassesOwn (model P w) (bodyX P w K mg base N qual scope f cdv A outer s H E).A (bodyX P w K mg base N qual scope f cdv A outer s H E).env (bodyX P w K mg base N qual scope f cdv A outer s H E).xe := passes_of rfl
def endF : Out → M D
  | .nx _ => ret .non
  | .ret d => ret d
  | _ => stuck
theorem env_start {c : RC} {H : Hp} {ds : List D} {vs : List V} (N : List Str) (h : DnL c H ds vs) : EnvR c H (ds.map Sl.val ++ List.replicate (N.length - ds.length) Sl.no) (L2.start N vs) := by
  have hl := h.length
  unfold L2.start
  refine ⟨by simp [hl], fun i s o e1 e2 => ?_, fun i j d d' v e1 _ _ _ => ?_⟩
  · by_cases hi : i < ds.length
    · rw [List.getElem?_append_left (by simpa using hi)] at e1
      rw [List.getElem?_append_left (by simpa using hl ▸ hi)] at e2
      rw [List.getElem?_map] at e1 e2
      obtain ⟨d, q1, rfl⟩ := Option.map_eq_some_iff.mp e1
      obtain ⟨v, q2, q3⟩ := h.get q1
      rw [q2] at e2
      cases e2
      exact ⟨v, rfl, q3⟩
    · rw [List.getElem?_append_right (by simpa using hi), List.getElem?_replicate] at e1
      split at e1 <;> cases e1
      exact True.intro
  · exfalso
    by_cases hi : i < ds.length
    · rw [List.getElem?_append_left (by simpa using hi), List.getElem?_map] at e1
      obtain ⟨_, _, z⟩ := Option.map_eq_some_iff.mp e1
      cases z
    · rw [List.getElem?_append_right (by simpa using hi), List.getElem?_replicate] at e1
      split at e1 <;> cases e1
/-- what the body's reading asks at the start -/
theorem rd_start {g : RC} {fb : Env → M Out} {vs : List V} {H : Hp} {Q : VK} {E : XK} {n : Nat} (h : spD g n (fun args => bnd (fb (args.map Sl.val ++ List.replicate (N.length - args.length) Sl.no)) endF) vs H Q E) :
    rdS g fb E { nx := fun _ H' => Q .non H', rt := Q } (L2.start N vs) H := by
  obtain ⟨_, ρ, ω, m, ds, hm, hl, hp⟩ := h
  refine ⟨⟨ρ, ω, [], H⟩, ρ, ω, _, m, ⟨⟨⟨[], by simp⟩, fun a ha => .inl ha, fun a o q _ _ _ => q, fun a o q t => ⟨o, q, t⟩⟩, ⟨[], rfl, fun a ha => nomatch ha⟩, env_start N hl, hm, fun i d a e1 _ => ?_⟩, ?_⟩
  · exfalso
    by_cases hi : i < ds.length
    · rw [List.getElem?_append_left (by simpa using hi), List.getElem?_map] at e1
      obtain ⟨_, _, z⟩ := Option.map_eq_some_iff.mp e1
      cases z
    · rw [List.getElem?_append_right (by simpa using hi), List.getElem?_replicate] at e1
      split at e1 <;> cases e1
  · have xt : ∀ {ρ' H'}, Xe ⟨ρ, ω, [], H⟩ ρ' H' → Xt (g.at ρ ω) H ρ' H' := fun {ρ' H'} x => ⟨x.pre, x.new, fun a o q n nt => x.keep a o q n (fun z => nomatch z) nt, x.there⟩
    dsimp only [bnd] at hp
    cases q : fb (ds.map Sl.val ++ List.replicate (N.length - ds.length) Sl.no) m with
    | bad => rw [q] at hp; exact hp.elim
    | exc C fs m1 => rw [q] at hp; exact fun ρ' H' A d x he hm' => hp ρ' H' A d (xt x) he hm'
    | ok o m1 =>
      rw [q] at hp
      cases o with
      | nx env => exact fun ρ' ω' H' σ' a => hp ρ' H' .non (xt a.x) rfl (MemR.less (c := g.at ρ' ω') (ω' := ω) a.lo a.hm)
      | ret d => exact fun ρ' H' v x hd hm' => hp ρ' H' v (xt x) hd hm'
      | bk env => exact hp.elim
      | ct env => exact hp.elim
end
end Ev
end
section
set_option Elab.async false
set_option linter.all false
set_option maxRecDepth 100000
set_option maxHeartbeats 2000000
/-! Ev: an exception that is caught and held as a value. -/
namespace Ev
open PySem PySem.Spec PyProof.Rows L2
section
variable {X : Cx} {pins : List (Addr × Obj)} {σ : L2.St} {H : Hp} {s : Shared} {a : Addr} {o : HO}
/-- an object that stands in the heap is told of from now on -/
theorem inv_track (I : L2.Inv X pins σ H s) (ha : H a = none) (h0 : X.s_0.heap.get? a = none) (hp : ∀ p ∈ X.pn ++ pins, p.1 ≠ a) (nL : X.env.locals ≠ a) (nC : ∀ y c, X.env.cells.lookup y = some c → c ≠ a) (new : ObjOk X.prog X.w (upd H a o) s.heap a o) :
    L2.Inv X pins σ (upd H a o) s := by
  have gr : ∀ {b : Addr} {u : HO}, H b = some u → upd H a o b = some u := fun {b u} e => by rw [upd_ne (ne_of_none e ha)]; exact e
  have no : ∀ {b : Addr}, b ≠ a → H b = none → upd H a o b = none := fun {b} n e => by rw [upd_ne n]; exact e
  have n0 : ∀ {b : Addr} {u : Obj}, X.s_0.heap.get? b = some u → b ≠ a := fun {b u} e z => by rw [z, h0] at e; cases e
  obtain ⟨ok, os, bare, base, loc, cell, free, freeC, pin, hok, len⟩ := I
  refine ⟨ok, os, bare, ⟨base.keep, base.slot, fun b u e n q => no (n0 e) (base.free b u e n q), base.there, fun b xs e => gr (base.tups b xs e), fun b u xs e => gr (base.frzs b u xs e), fun b ps e => ?_⟩, loc, cell, no nL free, fun y c e => no (nC y c e) (freeC y c e), fun p q => ?_, fun b u e => ?_, len⟩
  · obtain ⟨more, z⟩ := base.tbls b ps e
    exact ⟨more, gr z⟩
  · obtain ⟨h1, h2, h3, h4, h5⟩ := pin p q
    exact ⟨h1, no (hp p q) h2, h3, h4, h5⟩
  · by_cases z : b = a
    · subst z
      rw [upd_same] at e
      cases e
      exact new
    · rw [upd_ne z] at e
      exact (hok b u e).stay (fun c v _ q => q) (fun c q => gr q) fun c xs q => gr q
theorem exV_ok {P : Program} {w : World} {h : Heap} {cls : Value} {d : Option Addr} {oe : Obj} {vs : Array Value} (e : h.get? a = some oe) (z : Zc cls d oe) (q : oe.data = .fields vs) : ObjOk P w H h a (ExV cls d a) :=
  ⟨⟨oe, vs, e, z, q⟩, ⟨oe, e⟩, fun _ _ ⟨o, v, e1, r⟩ k => ⟨o, v, k o e1, r⟩⟩
end
/-- what «except x as n: y = n» wishes of the body's exception: slot i is n's, slot j is y's -/
def wHeld (K : PySem.W.Frag) (c : Value) (i j : Nat) (Wout : WX) (nx : L2.St → Hp → Prop) : WX := fun cls d σ H =>
  ∃ b, PySem.W.exmOne K cls c = some b ∧ (b = true → ∀ a, H a = none → nx (((σ.set i (some (.ref a))).set j (some (.ref a))).set i none) (upd H a (ExV cls d a))) ∧ (b = false → Wout cls d σ H)
section
variable {X : Cx} {x n y : Str} {c : Value} {i j : Nat} {body : List Stmt} {np pe py pa pos pos' : Pos} {tb : WX → TS} {Wout : WX}
theorem try_held (hst : X.stack = X.env :: X.outer) (hfl : X.env.frame = some X.env.locals) (hex : X.ex = []) (hN : X.N.Nodup) (hi : X.N[i]? = some n) (hj : X.N[j]? = some y) (hln : X.env.kindOf n = some .local) (hly : X.env.kindOf y = some .local) (hc : Names X x c) (tk : Takes X Wout)
    (hn1 : (n == ("__debug__" : Str)) = false) (hn2 : (n == ("__classdict__" : Str)) = false) (hsw : swapsWith (.Name n pe) (some (.Name y py)) pa.line X.env = pure false)
    (hb : ∀ (W : WX) (pn : List (Addr × Obj)) (xe : Value → Shared → Prop), Takes (X.tr pn xe) W → PassesOwn (model X.prog X.w) X.A X.env xe → PSs (X.tr pn xe) body (tb W)) :
    PS X (.Try body [.ExceptHandler (some (.Name x np)) (some n) [.Assign [.Name y py] (.Name n pe) pa] pos'] [] [] pos) (fun D σ H => tb (wHeld X.K c i j Wout D.nx) D σ H) := by
  refine ⟨fun pins s σ H D I h => ?_⟩
  have OK := I.ok
  have frames2 : X.A.frames = some (X.env :: X.outer) := hst ▸ OK.frames
  refine wpAny_Try_except (wpAny_mono ((hb (wHeld X.K c i j Wout D.nx) (X.pn ++ pins) _ (fun u st air => ?_) PassesOwn.looking).run [] s σ H D (I.toTry _) h) (fun fl st sp => ?_) (fun u st z => z))
  · obtain ⟨a, B, sI, pins', σ', H', cls, d, rfl, J', nb, up, sky, na, hos, gens, b, hb1, hyes, hno⟩ := air
    have J : L2.Inv X pins σ' H' sI := J'.ofTry OK
    refine Sky.land Zc.steady frames2 hfl (show Sky B (X.env :: X.outer) a (Zc cls d) X.env.locals st.heap from hst ▸ sky) fun g1 fl1 up1 => ?_
    have nofr : a ∉ frs (X.env :: X.outer) := fun hm => by
      obtain ⟨_, o', e', hnf⟩ := (fl1.2.2.1).mem hm
      obtain ⟨oe, vs, he, _, hd⟩ := fl1.there
      rw [he] at e'
      cases e'
      exact hnf _ hd
    have gone : sI.heap.get? a = none := by
      cases q : sI.heap.get? a with
      | none => rfl
      | some o =>
        have z := nb a o q (by rw [hst]; exact nofr)
        rw [fl1.2.1] at z
        cases z
    have nL : a ≠ X.env.locals := fun z => nofr (List.mem_filterMap.mpr ⟨_, List.mem_cons_self, by rw [hfl, z]⟩)
    have nF : a ∉ X.fs := fun hm => by
      obtain ⟨e1, he1, q⟩ := List.mem_filterMap.mp hm
      exact nofr (List.mem_filterMap.mpr ⟨e1, List.mem_cons_of_mem _ he1, q⟩)
    have pn0 : ∀ p ∈ X.pn ++ pins, p.1 ≠ a := fun p hp z => by
      have q := (J.pin p hp).1
      rw [z, gone] at q
      cases q
    have c0 : ∀ z w, X.env.cells.lookup z = some w → w ≠ a := fun z w hz e1 => by
      obtain ⟨v, o, ho, _⟩ := J.cell z w hz
      rw [e1, gone] at ho
      cases ho
    have s0 : X.s_0.heap.get? a = none := by
      cases q : X.s_0.heap.get? a with
      | none => rfl
      | some o =>
        obtain ⟨o', z⟩ := J.base.there a o q (by rw [hex]; exact fun z => nomatch z)
        rw [gone] at z
        cases z
    have clause : ∀ {st2 : Shared} {pn : List (Addr × Obj)} {H2 : Hp} {σ2 : L2.St} {R : Value → Shared → Prop} {G : Value → Shared → Prop}, L2.Inv (X.suite a pn) [] σ2 H2 st2 → R c st2 → wpAny (model X.prog X.w) (X.A.mark (some (.ref a))) (eval (.Name x np) X.env) R G st2 := fun {st2 pn H2 σ2 R G} S r => by
      rcases hc with ⟨hg, hdb, hm | ⟨hm, hv, hnn⟩⟩
      · exact ld_glob (X := X.suite a pn) S hg hm r hdb
      · exact ld_blt (X := X.suite a pn) S hg hm hv r hnn hdb
    obtain ⟨oe1, vs1, he1, hz1, hd1⟩ := fl1.there
    have J1 : L2.Inv X pins σ' H' { st with heap := g1 } := J.landed nb fl1.1 (up.trans up1) hos gens
    have S1 := J1.suite he1 hd1 na nL nF
    refine wpAny_handleBy_cons (codeAny_handlers_test (clause S1 ?_)) (fun z => nomatch z)
    refine (PySem.W.exm_one (M := model X.prog X.w) J1.kIn (fun A Q E s k q => wpAny_typeOf_ref (k _ _ he1) (by rw [hz1.1]; exact q)) hb1).here ?_
    cases b with
    | false =>
      refine wpAny_handleBy_nil ?_
      obtain ⟨_, _, _, oe, vs, T, oT, ts', he, hz, hd, h1, hr⟩ := id fl1
      have leave : wpAny (model X.prog X.w) X.A (setFlight (.ref a) X.env.frame) (fun _ s4 => wpAny (model X.prog X.w) X.A (throw (.ref a) : Sem Flow) (SP X pins D) X.xe s4) X.xe { st with heap := g1 } := by
        rw [hfl]
        exact HandSPX.setFlight_upZ fl1 fun h4 held up4 => wpAny_throw (tk _ _ ⟨a, B, sI, pins, σ', H', cls, d, rfl, J, nb, (up.trans up1).trans up4, .inr (.inr (hst ▸ held)), na, hos, gens, hno rfl⟩)
      unfold PySem.passOn
      refine wpAny_bind (wpAny_field he hd h1 ?_)
      rw [if_neg (by simp : ¬ ((Value.ref T == Value.none) = true))]
      first
        | exact wpAny_bind leave
        | exact wpAny_bind (wpAny_pure (wpAny_bind leave))
    | true =>
      refine codeAny_handlers_suite_as (HandSPX.lands_againZ fl1 fun g2 fl2 up2 => ?_)
      obtain ⟨oe2, vs2, he2, hz2, hd2⟩ := fl2.there
      have J2 : L2.Inv X pins σ' H' { st with heap := g2 } := J.landed nb fl2.1 ((up.trans up1).trans up2) hos gens
      refine store_ok (X := X.suite a ((a, oe2) :: (X.pn ++ pins))) (v := .ref a) (J2.suite he2 hd2 na nL nF) hN hi (.inl hln) rfl (fun s5 S5 => ?_) (.inr hln)
      have stp : PSs (X.suite a ((a, oe2) :: (X.pn ++ pins))) [.Assign [.Name y py] (.Name n pe) pa] (tAsg (tVar i) (gName j)) := pss_one (ps_set hN hj (.inl hly) (pe_var hi (.inl hln) hn1 hn2) hsw (.inr hly))
      have hiσ : i < σ'.length ∨ ¬ i < σ'.length := Classical.em _
      have seen : (σ'.set i (some (.ref a)))[i]? = some (some (.ref a)) ∨ ¬ i < σ'.length := hiσ.imp (fun z => List.getElem?_set_self z) id
      have il : i < σ'.length := by
        have z := (List.getElem?_eq_some_iff.mp hi).1
        have z2 := J.len
        omega
      have rdn : tAsg (tVar i) (gName j) { nx := fun σ2 H2 => σ2 = (σ'.set i (some (.ref a))).set j (some (.ref a)) ∧ H2 = H', rt := fun _ _ => False } (σ'.set i (some (.ref a))) H' := ⟨_, List.getElem?_set_self il, rfl, rfl⟩
      refine wpAny_mono (stp.run [] s5 _ H' _ S5 rdn) (fun fl6 s6 sp => ?_) (fun _ _ z => z.elim)
      match fl6, sp with
      | .next, ⟨σ6, H6, S6, e1, e2⟩ =>
        subst e1 e2
        show wpAny (model X.prog X.w) X.A (do bindName X.env n .none; unbindBehindTheSuite X.env n pos') _ X.xe s6
        refine gone_ok (X := X.suite a ((a, oe2) :: (X.pn ++ pins))) S6 hN hi hln fun s7 S7 => ?_
        have at7 := (S7.pin (a, oe2) (List.mem_append_left _ List.mem_cons_self)).1
        exact ⟨_, _, inv_track (S7.unsuite OK) na s0 pn0 (fun z => nL z.symm) c0 (exV_ok at7 hz2 hd2), hyes rfl a na⟩
      | .brk, ⟨_, _, _, z⟩ => exact z.elim
      | .cont, ⟨_, _, _, z⟩ => exact z.elim
      | .ret u, ⟨_, _, _, _, _, z⟩ => exact z.elim
  · match fl, sp with
    | .next, ⟨σ', H', J', q⟩ => exact wpAny_execs_nil ⟨σ', H', J'.ofTry OK, q⟩
    | .brk, ⟨σ', H', J', q⟩ => exact ⟨σ', H', J'.ofTry OK, q⟩
    | .cont, ⟨σ', H', J', q⟩ => exact ⟨σ', H', J'.ofTry OK, q⟩
    | .ret u, ⟨v, σ', H', J', r, q⟩ => exact ⟨v, σ', H', J'.ofTry OK, r, q⟩
end
end Ev
end
section
set_option Elab.async false
set_option linter.all false
set_option maxRecDepth 100000
set_option maxHeartbeats 2000000
/-! Ev: a lambda handed to a def that catches what it raises. -/
namespace Ev
open PySem PySem.Spec PyProof.Rows L2
theorem takes_len {X : Cx} {W : WX} (tk : Takes X W) : Takes X (fun cls d σ H => σ.length = X.N.length → W cls d σ H) := fun u s' ⟨a, B, sI, pins, σ, H, cls, d, e, I, nb, up, sky, na, os, ag, w⟩ =>
  tk u s' ⟨a, B, sI, pins, σ, H, cls, d, e, I, nb, up, sky, na, os, ag, w I.len⟩
/-- what the catching def makes of the lambda -/
def THeld (K : PySem.W.Frag) (CS : Addr) : (XK → Hp → VK → Prop) → Hp → VK → Prop := fun tl H Q =>
  tl (fun cls d H' => ∀ σ' : L2.St, σ'.length = 3 → wHeld K (.ref CS) 2 1 (fun _ _ _ _ => False) (fun σ2 H2 => ∃ v, σ2[1]? = some (some v) ∧ Q v H2) cls d σ' H') H (fun _ H' => ∃ v, (some (some V.non) : Option (Option V)) = some (some v) ∧ Q v H')
theorem held_gives {X : Cx} {x a cn n e q : Str} {sg : Scope} {g CS : Addr} {cdg : Value} {p0 p1 p2 p3 p4 p5 p6 p7 p8 p9 p10 p11 p12 p13 : Pos} {j0 : _}
    (hnd : [a, cn, n].Nodup) (hc : sg.names.lookup cn = some .local) (hn : sg.names.lookup n = some .local) (hge : sg.names.lookup e = some .globalImplicit) (hme : X.mg e = some (.ref CS)) (hde : (e == ("__debug__" : Str)) = false)
    (d1 : (cn == ("__debug__" : Str)) = false) (d2 : (cn == ("__classdict__" : Str)) = false) (d3 : (n == ("__debug__" : Str)) = false) (d4 : (n == ("__classdict__" : Str)) = false)
    (sw1 : ∀ Y : Cx, Y.env.scope = sg → swapsWith (.Constant .none j0 p1) (some (.Name cn p0)) p2.line Y.env = pure false)
    (sw2 : ∀ Y : Cx, Y.env.scope = sg → swapsWith (.Name n p8) (some (.Name cn p7)) p9.line Y.env = pure false)
    (sw3 : ∀ Y : Cx, Y.env.scope = sg → swapsWith (.Call (.Name a p3) [] [] p4) none p5.line Y.env = pure false) :
    LamX.GivesTo X [a, cn, n] x sg g cdg [.Assign [.Name cn p0] (.Constant .none j0 p1) p2, .Try [.Expr (.Call (.Name a p3) [] [] p4) p5] [.ExceptHandler (some (.Name e p6)) (some n) [.Assign [.Name cn p7] (.Name n p8) p9] p10] [] [] p11, .Return (some (.Name cn p12)) p13] a q (THeld X.K CS) := by
  intro f c' s H Q tl act hco h
  have hg : Gl (cxOf C8.CX0 X.prog X.w X.K X.mg X.base [a, cn, n] x sg g cdg X.A X.stack s H C8.E0).nox e := hge
  refine ⟨_, pss_cons (ps_set (i := 1) hnd rfl (.inl hc) pe_non (sw1 _ rfl) (.inl rfl)) (pss_cons (try_held (X := (cxOf C8.CX0 X.prog X.w X.K X.mg X.base [a, cn, n] x sg g cdg X.A X.stack s H C8.E0).nox) (i := 2) (j := 1) (c := .ref CS) (Wout := fun _ _ _ _ => False)
      (tb := fun W D σ H => σ[0]? = some (some (.ref f)) ∧ H c' = some (LamX.CodeO c' q) ∧ tl (fun cls d H' => ∀ σ' : L2.St, σ'.length = 3 → W cls d σ' H') H (fun _ H' => D.nx σ H'))
      rfl rfl rfl hnd rfl rfl hn hc ⟨hg, hde, .inl hme⟩ LamX.takes0 d3 d4 (sw2 _ rfl) (fun W pn xe tk _ => ?_)) (pss_one (ps_ret (pe_var (i := 1) rfl (.inl hc) d1 d2)))), ?_⟩
  · have hp := act (fun cls d σ' H' => σ'.length = 3 → W cls d σ' H') pn xe (fun cls d H' => ∀ σ' : L2.St, σ'.length = 3 → W cls d σ' H') p3 p4 (takes_len tk) (fun cls d σ' H' z => z σ')
    have hq := pss_one (ps_expr (pos := p5) hp (sw3 _ rfl))
    refine ⟨fun pins st σ H' D I ⟨h1, h2, h3⟩ => hq.run pins st σ H' D I ⟨h1, h2, h3⟩⟩
  · exact ⟨rfl, hco, h⟩
/-- what a new code object leaves -/
theorem ext_xt {g : RC} {ρ ω : List Addr} {H H1 : Hp} (e : LamX.ExtN H H1) : Xt (g.at ρ ω) H ρ H1 := ⟨⟨[], by simp⟩, fun a h => .inl h, fun a o q _ t => e a o q t, fun a o q t => ⟨o, e a o q t, t⟩⟩
theorem ext_mem {g : RC} {ρ ω : List Addr} {H H1 : Hp} {m : Mem} (e : LamX.ExtN H H1) (t : LamX.Tabs g.T H1) (h : MemR (g.at ρ ω) H m) : MemR (g.at ρ ω) H1 m := by
  refine ⟨h.len, fun i a o e1 e2 => ?_, h.nd, fun a ha => ?_, h.dj, t⟩
  · have z := h.at_ i a o e1 e2
    obtain ⟨u, hu, nt⟩ := z.there
    exact MoR.mono (c := g.at ρ ω) (ext_xt e) (fun w q => by rw [hu] at q; cases q; exact e a u hu nt) z
  · obtain ⟨o, q, nt⟩ := h.own a ha
    exact ⟨o, e a o q nt, nt⟩
/-- an error of the classes that are caught is one that the clause names -/
def CatchOk (g : RC) (fe : FE) (CS : Addr) : Prop := ∀ C A, (C, true) ∈ fe.cls → fe.sub C fe.base = true → g.mg C = some (.ref A) → PySem.W.exmOne g.K (.ref A) (.ref CS) = some true
section
variable {X : Cx} {g : RC} {fe : FE} {W : WX} {CS : Addr} {f : Env → M D}
theorem held_rd (ck : CatchOk g fe CS) {σ : L2.St} {H : Hp} {Q : VK} (h : RdE g (fun env m => caughtM fe (f env m)) W σ H Q) :
    LamX.tLam g.T (THeld g.K CS) (fun E => RdE g f (WK E)) σ H Q := by
  obtain ⟨ρ, ω, env, m, he, hm, hp⟩ := h
  refine ⟨hm.tabs, fun H1 e1 T1 => ⟨ρ, ω, env, m, he.later hm (ext_xt e1), ext_mem e1 T1 hm, ?_⟩⟩
  dsimp only at hp
  cases q : f env m with
  | bad => rw [q] at hp; exact hp.elim
  | ok d m1 =>
    rw [q] at hp
    exact fun ρ' H' v x hd hm' => ⟨.non, rfl, hp ρ' H' .non ((ext_xt e1).trans x) rfl hm'⟩
  | exc C fs m1 =>
    rw [q] at hp
    dsimp only [caughtM] at hp
    split at hp
    · rename_i hc
      obtain ⟨hc1, hc2⟩ := Bool.and_eq_true_iff.mp hc
      intro ρ' H' A d x hr hm' σ' hl
      obtain ⟨hA, hf⟩ := hr
      refine ⟨true, ck C A (by simpa using hc1) hc2 hA, fun _ a na => ?_, fun z => nomatch z⟩
      have ok := hm'.ok_new na
      have xl : Xt (g.at ρ' ω) H' ρ' (upd H' a (ExV (.ref A) d a)) := Xt.laid na
      refine ⟨.ref a, ?_, hp ρ' _ (.ref a) (((ext_xt e1).trans x).trans xl) ⟨a, A, d, rfl, ok, hA, upd_same, ?_⟩ (hm'.laid na)⟩
      · rw [List.getElem?_set_ne (by decide), List.getElem?_set_self (by simp [hl])]
      · rcases hf with hf | ⟨dd, ws, h1, h2, h3, h4⟩
        · exact .inl hf
        · exact .inr ⟨dd, ws, h1, h2, by rw [upd_ne (ne_of_none h3 na)]; exact h3, DnF.mono (c := g.at ρ' ω) xl _ _ h4⟩
    · exact hp.elim
end
end Ev
end
section
set_option Elab.async false
set_option linter.all false
set_option maxRecDepth 100000
set_option maxHeartbeats 2000000
/-! Ev: the evaluator's parts by name, and one rule for each. -/
namespace Ev
open PySem PySem.Spec PyProof.Rows L2
/-! ### expressions -/
abbrev Ex := Env → M D
abbrev Exs := Env → M (List D)
def eVar (i : Nat) : Ex := fun env => rd env i
def wVar (i : Nat) : Ex := fun env => match env[i]? with
  | some (.own d) => ret d
  | _ => rd env i
def eCon (d : D) : Ex := fun _ => ret d
def eBin (o : BinK) (a b : Ex) : Ex := fun env => bnd (a env) fun x => bnd (b env) fun y => d2 x y (binD o)
def eCmp (o : CmpK) (a b : Ex) : Ex := fun env => bnd (a env) fun x => bnd (b env) fun y => d2 x y fun x y => (cmpD o x y).map .bl
def eChain (o o' : CmpK) (a b c : Ex) : Ex := fun env => bnd (a env) fun x => bnd (b env) fun y => bnd (d2 x y (cmpD o)) fun k =>
  if k = true then bnd (c env) fun z => d2 y z fun y z => (cmpD o' y z).map .bl else ret (.bl false)
def eNeg (a : Ex) : Ex := fun env => bnd (a env) fun x => match x with | .int i => ret (.int (-i)) | _ => stuck
def eNot (a : Ex) : Ex := fun env => bnd (a env) fun x => match x with | .bl b => ret (.bl (!b)) | _ => stuck
def eAnd (a b : Ex) : Ex := fun env => bnd (a env) fun x => match x with | .bl true => b env | .bl false => ret (.bl false) | _ => stuck
def eOr (a b : Ex) : Ex := fun env => bnd (a env) fun x => match x with | .bl false => b env | .bl true => ret (.bl true) | _ => stuck
def eIfe (c a b : Ex) : Ex := fun env => bnd (c env) fun x => match x with | .bl true => a env | .bl false => b env | _ => stuck
def esNil : Exs := fun _ => ret []
def esCons (f : Ex) (fs : Exs) : Exs := fun env => bnd (f env) fun x => bnd (fs env) fun xs => ret (x :: xs)
def eTup (fs : Exs) : Ex := fun env => bnd (fs env) fun xs => guardM (decide (xs.length ≤ line)) (ret (.tup xs))
def eLst (fs : Exs) : Ex := fun env => bnd (fs env) fun xs => guardM (decide (xs.length ≤ line)) (ret (.lst xs))
def eDis (ks : List Key) (fs : Exs) : Ex := fun env => bnd (fs env) fun xs => guardM (decide (xs.length = ks.length ∧ ks.length ≤ 15 ∧ ks.Nodup)) (ret (.dK (ks.zip xs)))
def eIdx (a i : Ex) : Ex := fun env => bnd (a env) fun x => bnd (i env) fun y => d1 x fun x => idxD x y
def oNone : Ex := fun _ => ret .non
def oSome (f : Ex) : Ex := fun env => bnd (f env) fun x => match x with | .int i => ret (.int i) | _ => stuck
def eSli (a l h : Ex) : Ex := fun env => bnd (a env) fun x => bnd (l env) fun l => bnd (h env) fun h => d1 x fun x => sliD x l h
def eFld (fe : FE) (a : Ex) (f : Str) : Ex := fun env => bnd (a env) fun x => lift (fldD fe.cls fe.fl x f)
def eCall (n : Nat) (fx : List D → M D) (fs : Exs) : Ex := fun env => bnd (fs env) fun xs => if xs.length = n then fx xs else stuck
def eCallK (perm : List Nat) (np nk n : Nat) (fx : List D → M D) (fs fk : Exs) : Ex := fun env => bnd (fs env) fun xs => bnd (fk env) fun ys => kX perm np nk n fx xs ys
def eBlt (b : Blt) (fs : Exs) : Ex := fun env => bnd (fs env) fun xs => dn xs (bltD b)
def eIsi (fe : FE) (T : Ty) (a : Ex) : Ex := fun env => bnd (a env) fun x => d1 x fun x => (isiD fe.cls fe.sub T x).map .bl
def eMeth (s : Sm) (a : Ex) (fs : Exs) : Ex := fun env => bnd (a env) fun x => match x with | .str z => bnd (fs env) fun xs => dn xs (smD s z) | _ => stuck
def eComp (ow : List Nat) (gt : G) (it : Exs) (c : Env → M Bool) (e : Ex) : Ex := fun env => bnd (it env) fun ds => guardM ((slots gt).all fun i => ow.contains i) (bnd (compLoop (fun d => bindG gt d (wipeE env ow)) c e ds []) fun xs => ret (.lst xs))
def eNewL (a : Ex) : Ex := fun env => bnd (a env) newL
def ePop (a i : Ex) : Ex := fun env => bnd (a env) fun x => chkL x (bnd (i env) fun y => popM x y)
def eApp (a e : Ex) : Ex := fun env => bnd (a env) fun x => chkL x (bnd (e env) fun y => appM x y)
def eCaught (fe : FE) (f : Ex) : Ex := fun env m => caughtM fe (f env m)
def iSeq (a : Ex) : Exs := fun env => bnd (a env) fun x => lift (seqOf x)
def iRng1 (a : Ex) : Exs := fun env => bnd (a env) fun x => match x with | .int j => guardM (decide (j ≤ line ∧ -(2 ^ 62) ≤ j)) (ret (rangeD 0 j.toNat)) | _ => stuck
def cYes : Env → M Bool := fun _ => ret true
def cOne (f : Ex) : Env → M Bool := fun env => asBool (f env)
/-! ### statements -/
abbrev Ss := Env → M Out
def sNil : Ss := fun env => ret (.nx env)
def sSeq (f fs : Ss) : Ss := fun env => bnd (f env) (thenS fs)
def sSet (i : Nat) (f : Ex) : Ss := fun env => bnd (f env) fun x => setS env i (.val x)
def sOwn (i : Nat) (f : Ex) : Ss := fun env => bnd (f env) fun x => setS env i (.own x)
def sAsg (gt : G) (f : Ex) : Ss := fun env => bnd (f env) fun x => match bindG gt x env with | some env => ret (.nx env) | none => stuck
def sPar (i j : Nat) (fs : Exs) : Ss := fun env => bnd (fs env) fun xs => match parS [i, j] xs env with | some env => ret (.nx env) | none => stuck
def sIf (c : Ex) (a b : Ss) : Ss := fun env => bnd (asBool (c env)) fun k => if k = true then a env else b env
def sFor (gt : G) (it : Exs) (b : Ss) : Ss := fun env => bnd (it env) fun ds => forLoop (fun d env => bindG gt d env) b ds env
def sWhile (n : Nat) (c : Ex) (b : Ss) : Ss := fun env => whileLoop (fun env => asBool (c env)) b n env
def sRet (f : Ex) : Ss := fun env => bnd (f env) fun x => ret (.ret x)
def sRetN : Ss := fun _ => ret (.ret .non)
def sExpr (f : Ex) : Ss := fun env => bnd (f env) fun _ => ret (.nx env)
def sApp (i : Nat) (f : Ex) : Ss := fun env => guardM (ownL env i) (bnd (f env) fun z => appS i z env)
def sPutO (j : Nat) (i e : Ex) : Ss := fun env => guardM (ownL env j) (bnd (e env) fun z => bnd (i env) fun y => putO j y z env)
def sPutL (a i e : Ex) : Ss := fun env => bnd (e env) fun z => bnd (a env) fun x => bnd (i env) fun y => putL x y z env
def raiseM (C : Str) (n : Nat) (ns : List Str) (ix : List Nat) (xs : List D) : M Out := fun m => if xs.length = n then match permL ix xs with
    | some ys => .exc C (ns.zip ys) m
    | none => .bad
  else .bad
def sRaise (C : Str) (n : Nat) (ns : List Str) (ix : List Nat) (fs : Exs) : Ss := fun env => bnd (fs env) (raiseM C n ns ix)
def runB (n : Nat) (b : Ss) (args : List D) : M D := bnd (b (args.map Sl.val ++ List.replicate (n - args.length) Sl.no)) endF
/-! ### where a rule is used -/
structure Fits (X : Cx) (g : RC) (W : WX) (gd : Bool) (k : Nat) : Prop where
  hK : X.K = g.K
  hmg : X.mg = g.mg
  calm : X.calm = true
  hr : Room k X.A
  hgd : gd = true → X.A.guards = some []
  tk : Takes X W
  nd : X.N.Nodup
  hP : X.prog = g.P
section
variable {X : Cx} {g : RC} {W : WX} {gd : Bool} {k : Nat} {a b c e : Expr} {es : List Expr} {fa fb fc f : Ex} {fs fk : Exs} {pos p : Pos}
theorem Fits.hu (C : Fits X g W gd k) : X.A.units + 66 < cLine := by have := C.hr.un; omega
theorem Fits.blk (C : Fits X g W gd k) (s : Shared) (H : Hp) (scope : Scope) (cenv : PySem.Env) (fp : List Addr) : Fits (X.blk s H scope cenv fp) g W0 gd k := ⟨C.hK, C.hmg, C.calm, C.hr, C.hgd, LamX.takes0, C.nd, C.hP⟩
theorem eVar_ok {i : Nat} (h : PE X e (tVar i)) : PE X e (RdE g (eVar i) W) := snd_var h
theorem wVar_ok {i : Nat} (h : PE X e (tVar i)) : PE X e (RdW g (wVar i) W) := PE.imp (snd_weak (c := .var i) (f := fun env => rd env i) (snd_var h) (fun j q => by cases q; exact h)) fun σ H Q z => by
  have e1 : (fun env => weak (.var i) env (rd env i)) = wVar i := by
    funext env
    unfold weak wVar
    rfl
  rw [e1]
  exact z
theorem up_ok (h : PE X e (RdE g f W)) : PE X e (RdW g f W) := PE.imp (snd_weak (c := .con .non) h (fun i q => nomatch q)) fun σ H Q z => z
theorem eBin_ok (C : Fits X g W gd k) (o : BinK) (ha : PE X a (RdW g fa W)) (hb : PE X b (RdW g fb W)) : PE X (.BinOp a (opOf o) b pos) (RdE g (eBin o fa fb) W) := snd_bin C.hK ha hb
theorem eCmp_ok (C : Fits X g W gd k) (o : CmpK) (ha : PE X a (RdW g fa W)) (hb : PE X b (RdW g fb W)) (hm : behindInMarks (cmpOf o) b = false := by rfl) : PE X (.Compare a [cmpOf o] [b] pos) (RdE g (eCmp o fa fb) W) := snd_cmp C.hK (by have := C.hu; omega) ha hb hm
theorem tCmp_ok (C : Fits X g W gd k) (o : CmpK) (ha : PE X a (RdW g fa W)) (hb : PE X b (RdW g fb W)) (hm : behindInMarks (cmpOf o) b = false := by rfl) : PT X (.Compare a [cmpOf o] [b] pos) (RdT g (eCmp o fa fb) W) := snd_cmpT C.hK (by have := C.hu; omega) ha hb hm
theorem eChain_ok (C : Fits X g W gd k) (o o' : CmpK) (ha : PE X a (RdW g fa W)) (hb : PE X b (RdW g fb W)) (hc : PE X c (RdW g fc W)) (hm : lastMarks [cmpOf o, cmpOf o'] [b, c] = false := by rfl) :
    PE X (.Compare a [cmpOf o, cmpOf o'] [b, c] pos) (RdE g (eChain o o' fa fb fc) W) := snd_chain C.hK (by have := C.hu; omega) ha hb hc hm
theorem tChain_ok (C : Fits X g W gd k) (o o' : CmpK) (ha : PE X a (RdW g fa W)) (hb : PE X b (RdW g fb W)) (hc : PE X c (RdW g fc W)) (hm : lastMarks [cmpOf o, cmpOf o'] [b, c] = false := by rfl) :
    PT X (.Compare a [cmpOf o, cmpOf o'] [b, c] pos) (RdT g (eChain o o' fa fb fc) W) := snd_chainT C.hK (by have := C.hu; omega) ha hb hc hm
theorem eNeg_ok (ha : PE X a (RdE g fa W)) : PE X (.UnaryOp .USub a pos) (RdE g (eNeg fa) W) := snd_neg ha
theorem eNot_ok (ha : PE X a (RdE g fa W)) : PE X (.UnaryOp .Not a pos) (RdE g (eNot fa) W) := snd_not ha
theorem tNot_ok (ha : PT X a (RdT g fa W)) : PT X (.UnaryOp .Not a pos) (RdT g (eNot fa) W) := snd_notT ha
theorem eAnd_ok {rest : List Expr} (ha : PE X a (RdE g fa W)) (hb : PE X (.BoolOp .And (b :: rest) pos) (RdE g fb W)) : PE X (.BoolOp .And (a :: b :: rest) pos) (RdE g (eAnd fa fb) W) := snd_and ha hb
theorem eOr_ok {rest : List Expr} (ha : PE X a (RdE g fa W)) (hb : PE X (.BoolOp .Or (b :: rest) pos) (RdE g fb W)) : PE X (.BoolOp .Or (a :: b :: rest) pos) (RdE g (eOr fa fb) W) := snd_or ha hb
theorem eOne_ok {op : BoolOp} (ha : PE X a (RdE g fa W)) : PE X (.BoolOp op [a] pos) (RdE g fa W) := pe_one ha
theorem wAnd_ok {rest : List Expr} (ha : PT X a (RdT g fa W)) (hb : PW X (.BoolOp .And (b :: rest) pos) (RdT g fb W)) : PW X (.BoolOp .And (a :: b :: rest) pos) (RdT g (eAnd fa fb) W) := snd_andT ha hb
theorem wOr_ok {rest : List Expr} (ha : PT X a (RdT g fa W)) (hb : PW X (.BoolOp .Or (b :: rest) pos) (RdT g fb W)) : PW X (.BoolOp .Or (a :: b :: rest) pos) (RdT g (eOr fa fb) W) := snd_orT ha hb
theorem eIfe_ok (hc : PT X c (RdT g fc W)) (ha : PE X a (RdE g fa W)) (hb : PE X b (RdE g fb W)) : PE X (.IfExp c a b pos) (RdE g (eIfe fc fa fb) W) := snd_ife hc ha hb
theorem tVal_ok (ha : PE X a (RdE g fa W)) (he : ∀ whole, isTrue a X.env whole = (do let v ← whole; standAt a.pos; holding [v] (truthy v)) := by intro _; rfl) : PT X a (RdT g fa W) := snd_valT ha he
theorem esNil_ok : PA X [] (RdA g esNil W) := snd_nil
theorem esCons_ok (ha : PE X e (RdE g f W)) (hr : PA X es (RdA g fs W)) (hs : starEach (e :: es) X.env = (false, eval e X.env) :: starEach es X.env := by rfl) : PA X (e :: es) (RdA g (esCons f fs) W) := snd_cons ha hr hs
theorem wsNil_ok : PA X [] (RdAW g esNil W) := snd_nilW
theorem wsCons_ok (ha : PE X e (RdW g f W)) (hr : PA X es (RdAW g fs W)) (hs : starEach (e :: es) X.env = (false, eval e X.env) :: starEach es X.env := by rfl) : PA X (e :: es) (RdAW g (esCons f fs) W) := snd_consW ha hr hs
theorem eTup_ok {n} (h : PA X es (RdA g fs W)) : PE X (.Tuple es n pos) (RdE g (eTup fs) W) := snd_tup h
theorem fLst_ok (h : PA X es (RdA g fs W)) : PE X (.List es pos) (RdF g (eLst fs) W) := snd_lst h
theorem eLst_ok (h : PA X es (RdA g fs W)) : PE X (.List es pos) (RdE g (eLst fs) W) := snd_fresh (snd_lst h)
theorem eNew_ok (h : PE X e (RdF g f W)) : PE X e (RdE g (eNewL f) W) := snd_newL h
theorem fDis_ok {keys : List (Option Expr)} {values : List Expr} {ks : List Key} (h : RdPs X g W pos keys values ks fs) (hall : keys.all (·.isSome) = true := by rfl) (hl : keys.length = values.length := by rfl) (h0 : keys ≠ [] := by intro z; cases z) (h15 : keys.length ≤ 15 := by decide) : PE X (.Dict keys values pos) (RdF g (eDis ks fs) W) := snd_dis h hall hl h0 h15
theorem pNil_ok : RdPs X g W pos [] [] [] esNil := snd_pnil
theorem pCons_ok {kx v : Expr} {kd : Key} {keys : List (Option Expr)} {values : List Expr} {ks : List Key} (hk : PE X kx (tC (kV kd))) (hv : PE X v (RdE g f W)) (hr : RdPs X g W pos keys values ks fs) : RdPs X g W pos (some kx :: keys) (v :: values) (kd :: ks) (esCons f fs) := snd_pcons hk hv hr
theorem eIdx_ok (C : Fits X g W gd k) (ha : PE X a (RdW g fa W)) (hb : PE X b (RdE g fb W)) (hs : PlainIx b := by exact fun _ _ => rfl) : PE X (.Subscript a b pos) (RdE g (eIdx fa fb) W) := snd_idx C.hK (by have := C.hu; omega) ha hb hs
theorem oNone_ok : PO X none (rdM g DnO oNone W) := snd_none
theorem oSome_ok (h : PE X e (RdE g f W)) : PO X (some e) (rdM g DnO (oSome f) W) := snd_some h
theorem eSli_ok (C : Fits X g W gd k) {lo hi : Option Expr} {p2 : Pos} {fl fh : Ex} (ha : PE X a (RdW g fa W)) (hl : PO X lo (rdM g DnO fl W)) (hh : PO X hi (rdM g DnO fh W)) : PE X (.Subscript a (.Slice lo hi none p2) pos) (RdE g (eSli fa fl fh) W) := snd_sli C.hK ha hl hh
theorem eFld_ok {fe : FE} {n : Str} (C : Fits X g W gd k) (co : ClsOk g fe) (ha : PE X a (RdE g fa W)) (hb : attributeBase a n X.env (eval a X.env) = eval a X.env := by rfl) : PE X (.Attribute a n pos) (RdE g (eFld fe fa n) W) := snd_fld C.hK co ha hb
theorem eBlt_ok (C : Fits X g W gd k) (t : Blt) (hgd : t = .repr → gd = true) (hg : Gl X (bltN t)) (hm : g.mg (bltN t) = none) (ha : PA X (e :: es) (RdAW g fs W)) (he : starEach (e :: es) X.env = (false, eval e X.env) :: starEach es X.env := by rfl) (hpl : (backTo pos (starEach es X.env)).any (·.1) = false := by rfl) :
    PE X (.Call (.Name (bltN t) p) (e :: es) [] pos) (RdE g (eBlt t fs) W) := snd_blt C.hK C.calm (fun z => C.hgd (hgd z)) C.hu hg (by rw [C.hmg]; exact hm) ha he hpl
theorem eIsi_ok {fe : FE} {T : Ty} {cv : V} {u : Value} (C : Fits X g W gd k) (co : ClsOk g fe) (hT : TyV g T cv u) (hg : Gl X "isinstance") (hm : g.mg "isinstance" = none) (ha : PE X a (RdW g fa W)) (ht : PE X e (tC cv))
    (he : starEach [a, e] X.env = (false, eval a X.env) :: starEach [e] X.env := by rfl) (he2 : starEach [e] X.env = (false, eval e X.env) :: starEach [] X.env := by rfl) (hpl : (backTo pos (starEach [e] X.env)).any (·.1) = false := by rfl) :
    PE X (.Call (.Name "isinstance" p) [a, e] [] pos) (RdE g (eIsi fe T fa) W) := snd_isi C.hK co hT hg (by rw [C.hmg]; exact hm) ha ht he he2 hpl
theorem eMeth_ok (C : Fits X g W gd k) (s : Sm) {apos : Pos} (ha : PE X a (RdE g fa W)) (hs : PA X (e :: es) (RdAW g fs W)) (hbase : attributeBase a (smN s) X.env (eval a X.env) = eval a X.env := by rfl)
    (hfew : ((backTo pos (starEach (e :: es) X.env)).all (fun x => !x.1) && (backToKw pos (keywordEach [] X.env)).all (fun x => x.1.isSome) && decide ((e :: es).length + ([] : List Keyword).length + (if ([] : List Keyword).isEmpty then 0 else 1) < 30)) = true := by rfl)
    (hline : (apos.endLine == pos.line) = true := by rfl) (hse : starEach (e :: es) X.env = (false, eval e X.env) :: starEach es X.env := by rfl) (hplain : (backTo pos (starEach es X.env)).any (·.1) = false := by rfl) :
    PE X (.Call (.Attribute a (smN s) apos) (e :: es) [] pos) (RdE g (eMeth s fa fs) W) := snd_meth C.hK s ha hs hbase hfew hline hse hplain
theorem ePop_ok {apos : Pos} (ha : PE X a (RdE g fa W)) (hb : PE X b (RdE g fb W)) (hbase : attributeBase a "pop" X.env (eval a X.env) = eval a X.env := by rfl)
    (hfew : ((backTo pos (starEach [b] X.env)).all (fun x => !x.1) && (backToKw pos (keywordEach [] X.env)).all (fun x => x.1.isSome) && decide (([b] : List Expr).length + ([] : List Keyword).length + (if ([] : List Keyword).isEmpty then 0 else 1) < 30)) = true := by rfl)
    (hline : (apos.endLine == pos.line) = true := by rfl) (hs : starEach [b] X.env = (false, eval b X.env) :: starEach [] X.env := by rfl) (hplain : (backTo pos (starEach [] X.env)).any (·.1) = false := by rfl) :
    PE X (.Call (.Attribute a "pop" apos) [b] [] pos) (RdE g (ePop fa fb) W) := snd_popL ha hb hbase hfew hline hs hplain
theorem eApp_ok {apos : Pos} (ha : PE X a (RdE g fa W)) (hb : PE X b (RdE g fb W)) (hbase : attributeBase a "append" X.env (eval a X.env) = eval a X.env := by rfl)
    (hfew : ((backTo pos (starEach [b] X.env)).all (fun x => !x.1) && (backToKw pos (keywordEach [] X.env)).all (fun x => x.1.isSome) && decide (([b] : List Expr).length + ([] : List Keyword).length + (if ([] : List Keyword).isEmpty then 0 else 1) < 30)) = true := by rfl)
    (hline : (apos.endLine == pos.line) = true := by rfl) (hs : starEach [b] X.env = (false, eval b X.env) :: starEach [] X.env := by rfl) (hplain : (backTo pos (starEach [] X.env)).any (·.1) = false := by rfl) :
    PE X (.Call (.Attribute a "append" apos) [b] [] pos) (RdE g (eApp fa fb) W) := snd_appL ha hb hbase hfew hline hs hplain
theorem eCaught_ok {fe : FE} {CS : Addr} {x ac cn n : Str} {gA cA P : Addr} {pg : Arguments} {bg : List Stmt} {sg : Scope} {dV kV doc pm cdv ct oc : Value} {an od : Option Addr} {osl : Array (Option Value)} {params : Arguments} {body : Expr} {scope : Scope} {lpos : Pos} (C : Fits X g W gd (k + 2)) (ck : CatchOk g fe CS)
    (hg : Gl X x) (hm : g.mg x = some (.ref gA)) (hk : PySem.W.keepIn g.K (.ref gA) = true) (lk : g.K.lookup gA = some ⟨oc, od, .func (PySem.W.fnOf x x pg bg sg dV kV doc pm an cdv ct), osl⟩) (hcg : PySem.W.codeIn g.K cdv x = true) (hb : L2.Binds g.K (PySem.W.fnOf x x pg bg sg dV kV doc pm an cdv ct) [ac] []) (Sg : FnScope [ac, cn, n] [ac] sg) (hva : Vis sg ac)
    (hG : LamX.GivesTo X [ac, cn, n] x sg gA cdv bg ac (X.env.qual ++ "<lambda>") (THeld X.K CS)) (TB : LamX.TabB X.base X.mg cA P) (hcode : X.env.code = .ref cA) (hmT : (P, X.env.qual ++ "<lambda>") ∈ g.T) (hu : ∀ p ∈ g.T, p.1 = P → p.2 = X.env.qual ++ "<lambda>") (L : LamX.LamS X.env.scope scope) (hdef : defaultsOf params X.env = ([], []))
    (hbind : ∀ (q : Str) (cl : List (Str × Addr)) (pm cv ctv : Value), bindArgs (PySem.W.kla_fn "<lambda>" q params body scope cl pm cv ctv) ⟨[], []⟩ = pure [])
    (hbody : ∀ (A : Around) (outer : List PySem.Env) (s : Shared) (H : Hp) (E : XK) (f' c' : Addr), Fits (LamX.lamCx X A outer s H E scope f' c') g (WK E) false k → PE (LamX.lamCx X A outer s H E scope f' c') body (RdE g f (WK E)))
    (hdb : (x == ("__debug__" : Str)) = false := by decide) (hd : (ac == ("__debug__" : Str)) = false := by decide) (hcd : (ac == ("__classdict__" : Str)) = false := by decide) :
    PE X (.Call (.Name x p) [.Lambda params body scope lpos] [] pos) (RdE g (eCaught fe f) W) := by
  have h := LamX.pe_lamcall (X := X) (T := g.T) (t := fun E => RdE g f (WK E)) (p := p) (lpos := lpos) (pos := pos) hg (by rw [C.hmg]; exact hm) (by rw [C.hK]; exact hk) (by rw [C.hK]; exact lk) (by rw [C.hK]; exact hcg) (by rw [C.hK]; exact hb) Sg rfl hva hG TB hcode hmT hu C.hr L hdef hbind
    (fun A outer s H E f' c' hr => hbody A outer s H E f' c' ⟨C.hK, C.hmg, rfl, hr, (fun z => nomatch z), takes_of rfl rfl rfl rfl, C.nd, C.hP⟩) hdb hd hcd
  refine PE.imp h fun σ H Q hp => ?_
  rw [C.hK]
  exact held_rd ck hp
end
end Ev
end
section
set_option Elab.async false
set_option linter.all false
set_option maxRecDepth 100000
set_option maxHeartbeats 2000000
/-! Ev: calls, comprehensions and statements by name. -/
namespace Ev
open PySem PySem.Spec PyProof.Rows L2
/-- a def of the module that may be called by its name -/
structure CalG (P : Program) (w : World) (g : RC) (base : Heap) (gd : Bool) (k : Nat) (x : Str) (st : Stmt) (ps : List Str) (fx : List D → M D) : Prop where
  ex : ∃ f fd, L2.Fun g.K x x st f fd ∧ g.mg x = some (.ref f) ∧ FnG P w g.K g.mg base gd k f fd ps (spD g ps.length fx) ∧ L2.Binds g.K fd ps []
theorem CalG.mono {P : Program} {w : World} {g : RC} {base : Heap} {gd : Bool} {j k : Nat} {x : Str} {st : Stmt} {ps : List Str} {fx : List D → M D} (c : CalG P w g base gd j x st ps fx) (h : j ≤ k) : CalG P w g base gd k x st ps fx := by
  obtain ⟨f, fd, h1, h2, h3, h4⟩ := c.ex
  exact ⟨f, fd, h1, h2, h3.mono h, h4⟩
section
variable {X : Cx} {g : RC} {W : WX} {gd gd' : Bool} {j k : Nat} {a b c e : Expr} {es : List Expr} {fa fb fc f : Ex} {fs fk : Exs} {pos p : Pos} {x : Str} {st : Stmt} {ps : List Str} {fx : List D → M D}
theorem eCall_ok (C : Fits X g W gd k) (cl : CalG X.prog X.w g X.base gd' j x st ps fx) (hj : j ≤ k) (hgd : gd' = true → gd = true) (hg : Gl X x) (ha : PA X (e :: es) (RdA g fs W)) (n : Nat) (hn : ps.length = n := by rfl)
    (hdb : (x == ("__debug__" : Str)) = false := by decide) (he : starEach (e :: es) X.env = (false, eval e X.env) :: starEach es X.env := by rfl) (hpl : (backTo pos (starEach es X.env)).any (·.1) = false := by rfl) :
    PE X (.Call (.Name x p) (e :: es) [] pos) (RdE g (eCall n fx fs) W) := by
  obtain ⟨f, fd, h1, h2, h3, h4⟩ := cl.ex
  subst hn
  exact snd_call (by rw [C.hK, C.hmg]; exact h3) rfl (C.hr.mono hj) (fun z => C.hgd (hgd z)) C.tk hg (by rw [C.hmg]; exact h2) (by rw [C.hK]; exact h1.kp) (by rw [C.hK]; exact h4) ha hdb he hpl
theorem eCall0_ok (C : Fits X g W gd k) (cl : CalG X.prog X.w g X.base gd' j x st [] fx) (hj : j ≤ k) (hgd : gd' = true → gd = true) (hg : Gl X x) (hdb : (x == ("__debug__" : Str)) = false := by decide) :
    PE X (.Call (.Name x p) [] [] pos) (RdE g (eCall 0 fx esNil) W) := by
  obtain ⟨f, fd, h1, h2, h3, h4⟩ := cl.ex
  exact snd_call0 (by rw [C.hK, C.hmg]; exact h3) rfl (C.hr.mono hj) (fun z => C.hgd (hgd z)) C.tk hg (by rw [C.hmg]; exact h2) (by rw [C.hK]; exact h1.kp) (by rw [C.hK]; exact h4) hdb
/-- the keywords bind -/
def BindK (x : Str) (st : Stmt) (ps ks : List Str) (np : Nat) (perm : List Nat) : Prop := ∀ (kV doc pm : Value) (an : Option Addr) (cdv ct : Value) (us ws zs : List Value), us.length = np → ws.length = ks.length → permL perm (us ++ ws) = some zs →
  bindArgs (PySem.W.fnOf x x (defArgs st) (defBody st) (defScope st) .none kV doc pm an cdv ct) ⟨us, ks.zip ws⟩ = pure (ps.zip zs)
theorem kwNil_ok : PK X [] (RdA g esNil W) := snd_knil
theorem kwCons_ok {nm : Option Str} {kp : Pos} {kws : List Keyword} (ha : PE X e (RdE g f W)) (hr : PK X kws (RdA g fs W)) : PK X (⟨nm, e, kp⟩ :: kws) (RdA g (esCons f fs) W) := snd_kcons ha hr
theorem eCallK0_ok (C : Fits X g W gd k) (cl : CalG X.prog X.w g X.base gd' j x st ps fx) (hj : j ≤ k) (hgd : gd' = true → gd = true) (hg : Gl X x) {kws : List Keyword} {ks : List Str} (perm : List Nat) (hkw : PK X kws (RdA g fk W)) (n nk : Nat) (hbk : BindK x st ps ks 0 perm)
    (hn : ps.length = n := by rfl) (hnk : kws.length = nk := by rfl) (hall : (backToKw pos (keywordEach kws X.env)).all (·.1.isSome) = true := by rfl) (hks : (backToKw pos (keywordEach kws X.env)).filterMap (·.1) = ks := by rfl) (hkl : ks.length = kws.length := by rfl)
    (hdb : (x == ("__debug__" : Str)) = false := by decide) (hpl : ((backTo pos (starEach [] X.env)).any (·.1) || (backToKw pos (keywordEach kws X.env)).any (·.1.isNone)) = false := by rfl) :
    PE X (.Call (.Name x p) [] kws pos) (RdE g (eCallK perm 0 nk n fx esNil fk) W) := by
  obtain ⟨f, fd, h1, h2, h3, h4⟩ := cl.ex
  subst hn hnk
  obtain ⟨oc, od, kV, doc, pm, an, cdv, ct, osl, e1, e2, e3⟩ := h1.ex
  exact snd_callK0 (by rw [C.hK, C.hmg]; exact h3) (C.hr.mono hj) (fun z => C.hgd (hgd z)) C.tk hg (by rw [C.hmg]; exact h2) (by rw [C.hK]; exact h1.kp) (fun s us ws zs _ l1 l2 l3 => by rw [e1]; exact .of_eq (hbk kV doc pm an cdv ct us ws zs l1 l2 l3)) hkw hall hks hkl hdb hpl
theorem eCallK_ok (C : Fits X g W gd k) (cl : CalG X.prog X.w g X.base gd' j x st ps fx) (hj : j ≤ k) (hgd : gd' = true → gd = true) (hg : Gl X x) {kws : List Keyword} {ks : List Str} (perm : List Nat) (ha : PA X (e :: es) (RdA g fs W)) (hkw : PK X kws (RdA g fk W)) (n np nk : Nat) (hbk : BindK x st ps ks np perm)
    (hn : ps.length = n := by rfl) (hnp : (e :: es).length = np := by rfl) (hnk : kws.length = nk := by rfl) (hall : (backToKw pos (keywordEach kws X.env)).all (·.1.isSome) = true := by rfl) (hks : (backToKw pos (keywordEach kws X.env)).filterMap (·.1) = ks := by rfl) (hkl : ks.length = kws.length := by rfl)
    (hdb : (x == ("__debug__" : Str)) = false := by decide) (he : starEach (e :: es) X.env = (false, eval e X.env) :: starEach es X.env := by rfl) (hpl : ((backTo pos (starEach (e :: es) X.env)).any (·.1) || (backToKw pos (keywordEach kws X.env)).any (·.1.isNone)) = false := by rfl) :
    PE X (.Call (.Name x p) (e :: es) kws pos) (RdE g (eCallK perm np nk n fx fs fk) W) := by
  obtain ⟨f, fd, h1, h2, h3, h4⟩ := cl.ex
  subst hn hnp hnk
  obtain ⟨oc, od, kV, doc, pm, an, cdv, ct, osl, e1, e2, e3⟩ := h1.ex
  exact snd_callK (by rw [C.hK, C.hmg]; exact h3) (C.hr.mono hj) (fun z => C.hgd (hgd z)) C.tk hg (by rw [C.hmg]; exact h2) (by rw [C.hK]; exact h1.kp) (fun s us ws zs _ l1 l2 l3 => by rw [e1]; exact .of_eq (hbk kV doc pm an cdv ct us ws zs l1 l2 l3)) ha hkw hall hks hkl hdb he hpl
/-! ### what is walked, targets, comprehensions -/
theorem iSeqW_ok {tg : Expr} (C : Fits X g W gd k) (ha : PE X a (RdW g fa W)) : PI X tg a (RdI true g (iSeq fa) W) := snd_seqW C.hK ha
theorem iSeq_ok {tg : Expr} (C : Fits X g W gd k) (ha : PE X a (RdE g fa W)) : PI X tg a (RdI false g (iSeq fa) W) := snd_seqS C.hK ha
theorem iRng1_ok {tg : Expr} {w : Bool} (C : Fits X g W gd k) (hg : Gl X "range") (hm : g.mg "range" = none) (ha : PE X a (RdE g fa W)) (hs : starEach [a] X.env = [(false, eval a X.env)] := by rfl) : PI X tg (.Call (.Name "range" p) [a] [] pos) (RdI w g (iRng1 fa) W) := snd_rng1 hg (by rw [C.hmg]; exact hm) ha hs
theorem gName_ok {i : Nat} (h : PG X e (gName i)) : PG X e (RdG g (.name i)) := snd_gname h
theorem gTup_ok {n : Nat} {gs : List G} (C : Fits X g W gd k) (h : PGs X es (RdGs g gs)) (hn : (assignEach es X.env).length = gs.length := by rfl) (hst : (assignEach es X.env).findIdx? (·.1) = none := by rfl) : PG X (.Tuple es n pos) (RdG g (.tup gs)) := snd_gtup C.hK C.calm h hn hst
theorem gsNil_ok : PGs X [] (RdGs g []) := snd_gnil
theorem gsCons_ok {gt : G} {gs : List G} (h1 : PG X e (RdG g gt)) (h2 : PGs X es (RdGs g gs)) (hs : (assignEach (e :: es) X.env).map (·.2) = assign e X.env :: (assignEach es X.env).map (·.2) := by rfl) : PGs X (e :: es) (RdGs g (gt :: gs)) := snd_gcons h1 h2 hs
theorem cYes_ok : PTs X [] (RdC g cYes) := snd_c0
theorem cOne_ok (h : PT X c (RdT g fc W0)) : PTs X [c] (RdC g (cOne fc)) := snd_c1 h
theorem fComp_ok {elt tg iter : Expr} {ifs : List Expr} {scope : Scope} {gt : G} {fi : Exs} {fcc : Env → M Bool} (own : List (Str × Nat)) (C : Fits X g W gd k) (hi : PI X tg iter (RdI true g fi W)) (ok : BlkOk X.N X.env.scope scope own)
    (hgt : ∀ s H C' cl fp, Fits (X.blk s H scope (compEnvC scope cl C' X.env) fp) g W0 gd k → PG (X.blk s H scope (compEnvC scope cl C' X.env) fp) tg (RdG g gt))
    (ht : ∀ s H C' cl fp, Fits (X.blk s H scope (compEnvC scope cl C' X.env) fp) g W0 gd k → PTs (X.blk s H scope (compEnvC scope cl C' X.env) fp) ifs (RdC g fcc))
    (he : ∀ s H C' cl fp, Fits (X.blk s H scope (compEnvC scope cl C' X.env) fp) g W0 gd k → PE (X.blk s H scope (compEnvC scope cl C' X.env) fp) elt (RdE g f W0)) (hs : ∀ x, foldedSetIterable iter X.env x = pure x := by intro _; rfl) :
    PE X (.ListComp elt [⟨tg, iter, ifs, 0⟩] scope pos) (RdF g (eComp (own.map (·.2)) gt fi fcc f) W) :=
  PE.imp (pe_lc (own := own) C.calm C.nd (Ev.PI.len hi) ok (fun s H C' cl fp => hgt s H C' cl fp (C.blk ..)) (fun s H C' cl fp => ht s H C' cl fp (C.blk ..)) (fun s H C' cl fp => he s H C' cl fp (C.blk ..)) hs) fun σ H Q h => comp_rd h
theorem eComp_ok {elt : Expr} {gs : List Comprehension} {scope : Scope} (h : PE X (.ListComp elt gs scope pos) (RdF g f W)) : PE X (.ListComp elt gs scope pos) (RdE g f W) := snd_fresh h
end
end Ev
end
section
set_option Elab.async false
set_option linter.all false
set_option maxRecDepth 100000
set_option maxHeartbeats 2000000
/-! Ev: statements and defs by name. -/
namespace Ev
open PySem PySem.Spec PyProof.Rows L2
/-- a class of errors is called: how many arguments, which fields of which -/
def MkOk (g : RC) (k : Nat) (C : Str) (n : Nat) (ns : List Str) (ix : List Nat) : Prop := ∃ A, g.mg C = some (.ref A) ∧ ∀ (X : Cx) (p pos : Pos) (e : Expr) (es : List Expr) (ta : TA), X.K = g.K → X.mg = g.mg → X.prog = g.P → Room k X.A → Gl X C → (e :: es).length = n → PA X (e :: es) ta →
  starEach (e :: es) X.env = (false, eval e X.env) :: starEach es X.env → (backTo pos (starEach es X.env)).any (·.1) = false →
  PMk X (.Call (.Name C p) (e :: es) [] pos) (fun σ H Q => ta σ H fun vs H1 => vs.length = n ∧ ∃ ws, permL ix vs = some ws ∧ ((ns = [] ∧ Q (.ref A) none H1) ∨ (ns ≠ [] ∧ ∀ d, H1 d = none → Q (.ref A) (some d) (upd H1 d (.xd (ns.zip ws))))))
theorem zip_F {c : RC} {H : Hp} : ∀ {ns : List Str} {ds : List D} {vs : List V}, DnL c H ds vs → DnF c H (ns.zip ds) (ns.zip vs)
  | [], _, _, _ => by simp [DnF]
  | _ :: _, [], [], _ => True.intro
  | _ :: ns, _ :: _, _ :: _, ⟨h, t⟩ => ⟨rfl, h, zip_F t⟩
  | _ :: _, [], _ :: _, h => h.elim
  | _ :: _, _ :: _, [], h => h.elim
section
variable {X : Cx} {g : RC} {E : XK} {gd : Bool} {j k : Nat} {a b c e o i : Expr} {es : List Expr} {fa fb fc fi fo f : Ex} {fs fk : Exs} {pos p pos2 : Pos} {x : Str} {st : Stmt} {rest : List Stmt} {s1 s2 : Ss}
theorem sRaise_ok {C : Str} {n : Nat} {ns : List Str} {ix : List Nat} (Ft : Fits X g (WK E) gd k) (mk : MkOk g j C n ns ix) (hj : j ≤ k) (hg : Gl X C) (hn : (e :: es).length = n := by rfl) (ha : PA X (e :: es) (RdA g fs (WK E)))
    (he : starEach (e :: es) X.env = (false, eval e X.env) :: starEach es X.env := by rfl) (hpl : (backTo pos (starEach es X.env)).any (·.1) = false := by rfl) :
    PS X (.Raise (some (.Call (.Name C p) (e :: es) [] pos)) none pos2) (rdS g (sRaise C n ns ix fs) E) := by
  obtain ⟨A, hA, mk⟩ := mk
  refine PS.imp (ps_raise Ft.calm Ft.tk (mk X p pos e es _ Ft.hK Ft.hmg Ft.hP (Ft.hr.mono hj) hg hn ha he hpl)) fun D σ H ⟨t, ρ, ω, env, m, at0, h⟩ => ⟨ρ, ω, env, m, at0.he, at0.hm, PostS.bind at0 h fun ρ1 H1 ds vs m1 a1 hl h1 => ?_⟩
  unfold raiseM at h1
  by_cases q : ds.length = n
  · rw [if_pos q] at h1
    cases q2 : permL ix ds with
    | none => rw [q2] at h1; exact h1.elim
    | some ys =>
      rw [q2] at h1
      obtain ⟨ws, e1, l1⟩ := permL_V hl q2
      refine ⟨by rw [← hl.length]; exact q, ws, e1, ?_⟩
      have lm := MemR.less (c := g.at ρ1 ω) (ω' := t.ω) a1.lo a1.hm
      by_cases z : ns = []
      · subst z
        exact .inl ⟨rfl, h1 ρ1 H1 A none a1.x ⟨hA, .inl ⟨rfl, rfl⟩⟩ lm⟩
      · refine .inr ⟨z, fun d hd => ?_⟩
        have xl : Xt (g.at ρ1 ω) H1 ρ1 (upd H1 d (.xd (ns.zip ws))) := Xt.laid hd
        exact h1 ρ1 _ A (some d) (a1.x.step xl) ⟨hA, .inr ⟨d, _, rfl, lm.ok_new hd, upd_same, DnF.mono (c := g.at ρ1 t.ω) (Xt.laid hd) _ _ (zip_F (DnL.less (c := g.at ρ1 ω) (ω' := t.ω) a1.lo _ _ l1))⟩⟩ (lm.laid hd)
  · rw [if_neg q] at h1; exact h1.elim
theorem sNil_ok : PSs X [] (rdS g sNil E) := ss_nil
theorem sSeq_ok (h1 : PS X st (rdS g s1 E)) (h2 : PSs X rest (rdS g s2 E)) : PSs X (st :: rest) (rdS g (sSeq s1 s2) E) := ss_cons h1 h2
theorem sFrz_ok (i : Nat) (h : PSs X rest (rdS g s2 E)) : PSs X rest (rdS g (sSeq (frzS i) s2) E) := ss_freeze h
theorem sPass_ok : PS X (.Pass pos) (rdS g sNil E) := ss_pass
theorem sDoc_ok {z j pos'} : PS X (.Expr (.Constant (.str z) j pos) pos') (rdS g sNil E) := ss_doc
theorem sBrk_ok : PS X (.Break pos) (rdS g (fun env => ret (.bk env)) E) := ss_brk
theorem sCont_ok : PS X (.Continue pos) (rdS g (fun env => ret (.ct env)) E) := ss_cont
theorem sRetN_ok : PS X (.Return none pos) (rdS g sRetN E) := ss_retN
theorem sRet_ok (he : PE X e (RdE g f (WK E))) : PS X (.Return (some e) pos) (rdS g (sRet f) E) := ss_ret he
theorem sExpr_ok (he : PE X e (RdE g f (WK E))) (hs : swapsWith e none pos.line X.env = pure false := by rfl) : PS X (.Expr e pos) (rdS g (sExpr f) E) := ss_expr he hs
theorem sSet_ok {i : Nat} (C : Fits X g (WK E) gd k) (hi : X.N[i]? = some x) (hx : Loc X.env.scope x) (hf : X.fn x = true ∨ X.env.scope.names.lookup x = some .local) (he : PE X e (RdE g f (WK E))) (hs : swapsWith e (some (.Name x p)) pos.line X.env = pure false := by rfl) :
    PS X (.Assign [.Name x p] e pos) (rdS g (sSet i f) E) := ss_set (ps_set C.nd hi hx he hs hf)
theorem sOwn_ok {i : Nat} (C : Fits X g (WK E) gd k) (hi : X.N[i]? = some x) (hx : Loc X.env.scope x) (hf : X.fn x = true ∨ X.env.scope.names.lookup x = some .local) (he : PE X e (RdF g f (WK E))) (hs : swapsWith e (some (.Name x p)) pos.line X.env = pure false := by rfl) :
    PS X (.Assign [.Name x p] e pos) (rdS g (sOwn i f) E) := ss_setOwn (ps_set C.nd hi hx he hs hf)
theorem weak_asg {gg : TG} (h : PS X st (tAsg (RdF g f (WK E)) gg)) : PS X st (tAsg (RdE g f (WK E)) gg) := PS.imp h fun D σ H ⟨ρ, ω, env, m, he, hm, hp⟩ => ⟨ρ, ω, env, m, he, hm, PostF.weak (c := g.at ρ ω) (H := H) (r := f env m) (fun a ha => hm.own a ha) hp⟩
/-- name = [.. for ..] on one line, the name no cell -/
theorem asgC {i : Nat} {elt tg iter : Expr} {ifs : List Expr} {scope : Scope} {gt : G} {fi : Exs} {fcc : Env → M Bool} (own : List (Str × Nat)) (C : Fits X g (WK E) gd k) (hy : X.N[i]? = some x) (hyl : X.env.scope.names.lookup x = some .local)
    (hsw : swapsWith (.ListComp elt [⟨tg, iter, ifs, 0⟩] scope pos) (some (.Name x p)) pos2.line X.env = pure true) (hi : PI X tg iter (RdI true g fi (WK E))) (ok : BlkOk X.N X.env.scope scope own)
    (hgt : ∀ s H C' cl fp, Fits (X.blk s H scope (compEnvC scope cl C' X.env) fp) g W0 gd k → PG (X.blk s H scope (compEnvC scope cl C' X.env) fp) tg (RdG g gt))
    (ht : ∀ s H C' cl fp, Fits (X.blk s H scope (compEnvC scope cl C' X.env) fp) g W0 gd k → PTs (X.blk s H scope (compEnvC scope cl C' X.env) fp) ifs (RdC g fcc))
    (he : ∀ s H C' cl fp, Fits (X.blk s H scope (compEnvC scope cl C' X.env) fp) g W0 gd k → PE (X.blk s H scope (compEnvC scope cl C' X.env) fp) elt (RdE g f W0)) (hs : ∀ x, foldedSetIterable iter X.env x = pure x := by intro _; rfl) :
    PS X (.Assign [.Name x p] (.ListComp elt [⟨tg, iter, ifs, 0⟩] scope pos) pos2) (tAsg (RdF g (eComp (own.map (·.2)) gt fi fcc f) (WK E)) (gName i)) :=
  PS.imp (ps_setLc (own := own) C.calm C.nd hy hyl hsw (Ev.PI.len hi) ok (fun s H C' cl fp => hgt s H C' cl fp (C.blk ..)) (fun s H C' cl fp => ht s H C' cl fp (C.blk ..)) (fun s H C' cl fp => he s H C' cl fp (C.blk ..)) hs) fun D σ H h => comp_rd h
theorem sSetC_ok {i : Nat} (h : PS X st (tAsg (RdF g f (WK E)) (gName i))) : PS X st (rdS g (sSet i f) E) := ss_set (weak_asg h)
theorem sOwnC_ok {i : Nat} (h : PS X st (tAsg (RdF g f (WK E)) (gName i))) : PS X st (rdS g (sOwn i f) E) := ss_setOwn h
theorem new_asg {i : Nat} (h : PS X st (tAsg (RdF g f (WK E)) (gName i))) : PS X st (tAsg (RdE g (eNewL f) (WK E)) (gName i)) := PS.imp h fun D σ H ⟨ρ, ω, env, m, he, hm, hp⟩ => ⟨ρ, ω, env, m, he, hm, newL_post (r := f env m) hm hp⟩
theorem sAsg_ok {gt : G} {tg : Expr} (C : Fits X g (WK E) gd k) (he : PE X e (RdE g f (WK E))) (hg : PG X tg (RdG g gt)) (hs : swapsWithSole [tg] e pos.line X.env = pure false := by rfl) (hw : swappedStores [tg] e X.env = pure none := by rfl) (h1 : (assignEach [tg] X.env).map (·.2) = [assign tg X.env] := by rfl) :
    PS X (.Assign [tg] e pos) (rdS g (sAsg gt f) E) := ss_asg he hg hs hw h1
theorem sPar_ok {i j : Nat} {y : Str} {px py pt pt2 : Pos} {kt k2} (C : Fits X g (WK E) gd k) (hi : X.N[i]? = some x) (hj : X.N[j]? = some y) (hij : i ≠ j) (hx : X.env.scope.names.lookup x = some .local) (hy : X.env.scope.names.lookup y = some .local) (ha : PA X [a, b] (RdA g fs (WK E)))
    (hw : swappedStores [.Tuple [.Name x px, .Name y py] kt pt] (.Tuple [a, b] k2 pt2) X.env = pure (some [x, y]) := by rfl) (hs : swapsWithSole [.Tuple [.Name x px, .Name y py] kt pt] (.Tuple [a, b] k2 pt2) pos.line X.env = pure false := by rfl) :
    PS X (.Assign [.Tuple [.Name x px, .Name y py] kt pt] (.Tuple [a, b] k2 pt2) pos) (rdS g (sPar i j fs) E) := ss_par (ps_par C.calm C.nd hi hj hij hx hy ha hw hs)
theorem sIf_ok {sa sb : List Stmt} (hc : PT X c (RdT g fc (WK E))) (ha : PSs X sa (rdS g s1 E)) (hb : PSs X sb (rdS g s2 E)) : PS X (.If c sa sb pos) (rdS g (sIf fc s1 s2) E) := ss_if hc ha hb
theorem sFor_ok {tg iter : Expr} {body : List Stmt} {gt : G} {fi : Exs} (C : Fits X g (WK E) gd k) (hp : PassesOwn (model X.prog X.w) X.A X.env X.xe) (hi : PI X tg iter (RdI false g fi (WK E))) (hg : PG X tg (RdG g gt)) (hb : PSs X body (rdS g s1 E)) (hs : ∀ x, foldedSetIterable iter X.env x = pure x := by intro _; rfl) :
    PS X (.For tg iter body [] pos) (rdS g (sFor gt fi s1) E) := ss_for hp C.calm hi hg hb hs
theorem sWhile_ok {body : List Stmt} (n : Nat) (hp : PassesOwn (model X.prog X.w) X.A X.env X.xe) (hc : PT X c (RdT g fc (WK E))) (hb : PSs X body (rdS g s1 E)) : PS X (.While c body [] pos) (rdS g (sWhile n fc s1) E) := ss_while n hp hc hb
theorem sApp_ok {i : Nat} {apos cpos : Pos} (ho : PE X o (tVar i)) (he : PE X e (RdE g f (WK E))) (hbase : attributeBase o "append" X.env (eval o X.env) = eval o X.env := by rfl)
    (hfew : ((backTo cpos (starEach [e] X.env)).all (fun x => !x.1) && (backToKw cpos (keywordEach [] X.env)).all (fun x => x.1.isSome) && decide (([e] : List Expr).length + ([] : List Keyword).length + (if ([] : List Keyword).isEmpty then 0 else 1) < 30)) = true := by rfl)
    (hline : (apos.endLine == cpos.line) = true := by rfl) (hs : starEach [e] X.env = (false, eval e X.env) :: starEach [] X.env := by rfl) (hplain : (backTo cpos (starEach [] X.env)).any (·.1) = false := by rfl) (hsw : swapsWith (.Call (.Attribute o "append" apos) [e] [] cpos) none pos.line X.env = pure false := by rfl) :
    PS X (.Expr (.Call (.Attribute o "append" apos) [e] [] cpos) pos) (rdS g (sApp i f) E) := ss_app ho he hbase hfew hline hs hplain hsw
theorem sPutO_ok {j : Nat} (C : Fits X g (WK E) gd k) (he : PE X e (RdE g f (WK E))) (ho : PE X o (tVar j)) (hi : PE X i (RdE g fi (WK E)))
    (ha : ∀ v, assign (.Subscript o i pos2) X.env v = (do
      let ov ← holding [v] (eval o X.env)
      let iv ← holding [v, ov] (eval i X.env)
      standAt pos2
      holding [v, ov, iv] (setItem ov iv v)
      release [v, ov, iv] []) := by intro _; rfl)
    (hs : swapsWithSole [.Subscript o i pos2] e pos.line X.env = pure false := by rfl) (hw : swappedStores [.Subscript o i pos2] e X.env = pure none := by rfl) (h1 : (assignEach [.Subscript o i pos2] X.env).map (·.2) = [assign (.Subscript o i pos2) X.env] := by rfl) :
    PS X (.Assign [.Subscript o i pos2] e pos) (rdS g (sPutO j fi f) E) := ss_setO he ho hi (by have := C.hu; omega) ha hs hw h1
theorem sPutL_ok (C : Fits X g (WK E) gd k) (he : PE X e (RdE g f (WK E))) (ho : PE X o (RdE g fo (WK E))) (hi : PE X i (RdE g fi (WK E)))
    (ha : ∀ v, assign (.Subscript o i pos2) X.env v = (do
      let ov ← holding [v] (eval o X.env)
      let iv ← holding [v, ov] (eval i X.env)
      standAt pos2
      holding [v, ov, iv] (setItem ov iv v)
      release [v, ov, iv] []) := by intro _; rfl)
    (hs : swapsWithSole [.Subscript o i pos2] e pos.line X.env = pure false := by rfl) (hw : swappedStores [.Subscript o i pos2] e X.env = pure none := by rfl) (h1 : (assignEach [.Subscript o i pos2] X.env).map (·.2) = [assign (.Subscript o i pos2) X.env] := by rfl) :
    PS X (.Assign [.Subscript o i pos2] e pos) (rdS g (sPutL fo fi f) E) := ss_setL he ho hi (by have := C.hu; omega) ha hs hw h1
end
/-- a def of the module by its body -/
theorem CalG.of {w : World} {g : RC} {base : Heap} {gd : Bool} {k : Nat} {x : Str} {st : Stmt} {N ps : List Str} {b : Ss} (h : ∃ f fd, L2.Fun g.K x x st f fd ∧ g.mg x = some (.ref f) ∧ L2.Binds g.K fd ps []) (S : FnScope N ps (defScope st))
    (hb : ∀ f cdv A outer s H E, Fits (bodyX g.P w g.K g.mg base N x (defScope st) f cdv A outer s H E) g (WK E) gd k → PSs (bodyX g.P w g.K g.mg base N x (defScope st) f cdv A outer s H E) (defBody st) (rdS g b E)) :
    CalG g.P w g base gd (k + 1) x st ps (runB N.length b) := by
  obtain ⟨f, fd, F, hm, hbi⟩ := h
  refine ⟨f, fd, F, hm, ?_, hbi⟩
  obtain ⟨oc, od, kV, doc, pm, an, cdv, ct, osl, e1, e2, e3⟩ := F.ex
  subst e1
  refine FnG.of (N := N) e2 e3 S (fun vs H Q E h => h.1) fun A outer s H vs Q E hr hgd h => ⟨_, hb f cdv A outer s H E ⟨rfl, rfl, rfl, hr, hgd, takes_body, S.nd, rfl⟩, rd_start (N := N) h⟩
end Ev
end
section
set_option Elab.async false
set_option linter.all false
set_option maxRecDepth 100000
set_option maxHeartbeats 2000000
/-! Ev: the end of a law. -/
namespace Ev
open PySem PySem.Spec PyProof.Rows L2
section
variable {P : Program} {w : World} {K : PySem.W.Frag} {mg mb : Str → Option Value} {k : Nat} {fa a : Addr} {cs : List (Addr × Addr)} {fd : FuncData} {x : Str} {sp : Sp} {st : Shared} {vs : List Value} {ns : List Int}
/-- what is told of at the law's call: the tables, the script where nothing else tells of it -/
def H0 (K : PySem.W.Frag) (tb : List Addr) (a : Addr) (lo : Obj) (xs : List V) : Hp := fun b => if b ∈ tb then some (.tbl #[]) else if b = a ∧ K.lookup a = none then some (.frz lo (.lst xs)) else none
theorem H0_cases (K : PySem.W.Frag) (tb : List Addr) (a : Addr) (lo : Obj) (xs : List V) (b : Addr) : H0 K tb a lo xs b = none ∨ (b ∈ tb ∧ H0 K tb a lo xs b = some (.tbl #[])) ∨ (b = a ∧ b ∉ tb ∧ K.lookup a = none ∧ H0 K tb a lo xs b = some (.frz lo (.lst xs))) := by
  unfold H0
  by_cases h1 : b ∈ tb
  · exact .inr (.inl ⟨h1, if_pos h1⟩)
  · rw [if_neg h1]
    by_cases h2 : b = a ∧ K.lookup a = none
    · rw [if_pos h2]; exact .inr (.inr ⟨h2.1, h1, h2.2, rfl⟩)
    · rw [if_neg h2]; exact .inl rfl
theorem law_callG (KX : K.In st.heap) (hns : st.heap.Ns mainGlobals mg) (hb : st.heap.Ns builtinsNs mb) (hbb : ∀ y : Str, y ≠ "__name__" → mb y = bootBuiltins y) (hlim : st.heap.NoLimit) (hgens : st.gens = #[])
    (hT : ∀ p ∈ cs, st.heap.get? p.2 = some { cls := .none, data := .fields #[] }) (nT : ∀ p ∈ cs, K.lookup p.2 = none) (hC : ∀ p ∈ cs, PySem.W.CodeHd st.heap p.1 p.2)
    (hbm : ∃ (bm : Addr) (ob : Obj), mg "__builtins__" = some (.ref bm) ∧ bm ≠ builtinsNs ∧ st.heap.get? bm = some ob ∧ ob.cls = .type "module" ∧ ob.dict = some builtinsNs ∧ ob.data = .plain)
    (ha : st.heap.get? a = some { cls := .type "list", data := .seq vs.toArray }) (hi : IntsAre vs ns) (hl : ns.length ≤ sizeLine) (hr : Room k callerA)
    (F : ∀ base : Heap, K.In base → base.Ns mainGlobals mg → (∀ p ∈ cs, LamX.TabB base mg p.1 p.2) → FnG P w K mg base true k fa fd [x] sp) (hbind : ∀ (s : Shared) (u : Value), BindsTo s fd ⟨[u], []⟩ [(x, u)])
    (hsp : ∀ H : Hp, (∀ p ∈ cs, H p.2 = some (.tbl #[])) → (Rd H a (.lst (ns.map V.int)) ∨ KL K a (ns.map V.int)) → sp [.ref a] H (fun v _ => v = .bl true) fun _ _ _ => False) :
    codeAny (model P w) callerA (.call (.ref fa) ⟨[.ref a], []⟩) (fun r s' => r = .ok (.ret (.bool true)) ∧ OldK st.heap s'.heap ∧ s'.os = st.os ∧ AllBare s'.gens) st := by
  obtain ⟨tb, etb⟩ : ∃ tb, tb = cs.map (·.2) := ⟨_, rfl⟩
  obtain ⟨lo, elo⟩ : ∃ lo : Obj, lo = { cls := .type "list", data := .seq vs.toArray } := ⟨_, rfl⟩
  obtain ⟨H, eH⟩ : ∃ H, H = H0 K tb a lo (ns.map V.int) := ⟨_, rfl⟩
  have len := hi.length
  have rel := vals_ints hi
  have tabs : ∀ b ∈ tb, st.heap.get? b = some { cls := .none, data := .fields #[] } := fun b hbt => by
    rw [etb] at hbt
    obtain ⟨p, hp, rfl⟩ := List.mem_map.mp hbt
    exact hT p hp
  have inT : ∀ p ∈ cs, p.2 ∈ tb := fun p hp => etb ▸ List.mem_map_of_mem hp
  have aT : a ∉ tb := fun z => by have q := tabs a z; rw [ha] at q; exact nomatch congrArg Obj.data (Option.some.inj q)
  have cases_ := fun b => eH ▸ H0_cases K tb a lo (ns.map V.int) b
  have atT : ∀ p ∈ cs, H p.2 = some (.tbl #[]) := fun p hp => by rw [eH]; exact if_pos (inT p hp)
  -- the rest of the heap is ground
  have free : ∀ {b : Addr} {o : Obj}, st.heap.get? b = some o → (∀ us n, o.data ≠ .seq us n) → o.data ≠ .fields #[] → H b = none := fun {b o} e h1 h2 => by
    rcases cases_ b with z | ⟨z, _⟩ | ⟨z, _, _, _⟩
    · exact z
    · rw [tabs b z] at e; cases e; exact absurd rfl h2
    · rw [z, ha] at e; cases e; exact absurd rfl (h1 _ _)
  have isDict : ∀ {b : Addr} {o : Obj} {es : Array DictEntry} {ep : Nat}, st.heap.get? b = some o → o.data = .dict es ep → H b = none := fun {b o es ep} e d => free e (fun us n z => nomatch d.symm.trans z) (fun z => nomatch d.symm.trans z)
  have ground : ∀ {b : Addr} {m : Str → Option Value}, st.heap.Ns b m → (hidT st.heap H).Ns b m := fun {b m} ⟨o, es, ep, e, d, r⟩ => ⟨o, es, ep, hidT_get e (isDict e d), d, r⟩
  have groundK : K.In (hidT st.heap H) := fun b o e => hidT_get (KX b o e) (by
    rcases cases_ b with z | ⟨z, _⟩ | ⟨z, _, z2, _⟩
    · exact z
    · rw [etb] at z
      obtain ⟨p, hp, rfl⟩ := List.mem_map.mp z
      rw [nT p hp] at e; cases e
    · rw [z, z2] at e; cases e)
  have module_ : L2.Mod K mg (hidT st.heap H) := ⟨groundK, ground hns, ⟨mb, ground hb, hbb⟩, let ⟨mc, h1, h2⟩ := hlim; ⟨mc, ground h1, h2⟩⟩
  have hok : HOk P w H st.heap := fun b o e => by
    rcases cases_ b with z | ⟨z, z2⟩ | ⟨z, _, _, z2⟩
    · rw [z] at e; cases e
    · rw [z2] at e; cases e; exact tabs b z
    · rw [z2] at e; cases e
      rw [z, elo]
      exact ⟨ha, by rw [List.length_map]; exact hl, vs, _, rel, ha⟩
  have tabB : ∀ p ∈ cs, LamX.TabB (hidT st.heap H) mg p.1 p.2 := fun p hp => by
    refine ⟨?_, ?_, fun z => ?_⟩
    · obtain ⟨o, us, file, tf, flags, tg, inF, text, tt, e1, r1, r2, r3, r4⟩ := hC p hp
      refine ⟨o, us, file, tf, flags, tg, inF, text, tt, hidT_get e1 (free e1 (fun us' n z => nomatch r2.symm.trans z) fun z => ?_), r1, r2, r3, r4⟩
      have z' := r2.symm.trans z
      cases z'
      simp at r3
    · obtain ⟨bm, ob, b1, b2, b3, b4, b5, b6⟩ := hbm
      have plain : H bm = none := free b3 (fun us n z => nomatch b6.symm.trans z) (fun z => nomatch b6.symm.trans z)
      refine ⟨bm, ob, b1, b2, fun z => ?_, fun z => ?_, hidT_get b3 plain, b4, b5, b6⟩
      · obtain ⟨o, es, ep, e, hd, _⟩ := hns
        rw [z, e] at b3
        cases b3
        exact nomatch hd.symm.trans b6
      · rw [z, atT p hp] at plain; cases plain
    · obtain ⟨o, es, ep, e, hd, _⟩ := hns
      rw [z, hT p hp] at e
      cases e
      exact nomatch hd
  have env0 : Env0 P w K mg (hidT st.heap H) callerA [] st H := ⟨rfl, module_, fun b o e => of_hidT e, Nat.le_of_eq (hidT_size _ _), trivial, (fun b z => nomatch z), hok, .of_eq hgens⟩
  have script : Rd H a (.lst (ns.map V.int)) ∨ KL K a (ns.map V.int) := by
    cases q : K.lookup a with
    | none => exact .inl (.inr ⟨lo, by rw [eH]; unfold H0; rw [if_neg aT, if_pos ⟨rfl, q⟩]⟩)
    | some o =>
      have e := KX a o q
      rw [ha] at e
      cases e
      exact .inr ⟨_, vs.toArray, _, q, rfl, rfl, rfl, by rw [List.size_toArray, len]; exact hl, by simpa using rel⟩
  refine codeAny_mono ((F _ groundK (ground hns) tabB).go callerA [] st H ⟨[.ref a], []⟩ [.ref a] [.ref a] _ _ hr (fun _ => rfl) env0 (hbind st (.ref a)) (.cons rfl .nil) (hsp H atT script)) fun r s' h => ?_
  match r, h with
  | .error e, ⟨_, _, _, _, _, _, _, _, _, _, _, _, z⟩ => exact z.elim
  | .ok (.ret u), ⟨v, H', os, bare, un, hok', rv, q⟩ =>
    obtain rfl : v = .bl true := q
    obtain rfl : u = Value.bool true := rv
    have same : ∀ b o, b ∉ tb → st.heap.get? b = some o → s'.heap.get? b = some o := fun b o nb e => by
      rcases cases_ b with z | ⟨z, _⟩ | ⟨_, _, _, z⟩
      · exact un.keep b o e z (fun z => nomatch z) (fun z => nomatch z)
      · exact absurd z nb
      · obtain ⟨e1, _⟩ := hok b _ z
        obtain ⟨e2, _⟩ := hok' b _ (un.frzs b lo _ z)
        rw [e] at e1
        cases e1
        exact e2
    have more : ∀ b, b ∈ tb → ∃ p ∈ cs, p.2 = b ∧ ∃ m : Array Value, s'.heap.get? b = some { cls := .none, data := .fields m } := fun b z => by
      rw [etb] at z
      obtain ⟨p, hp, rfl⟩ := List.mem_map.mp z
      obtain ⟨m, z2⟩ := un.tbls p.2 #[] (atT p hp)
      exact ⟨p, hp, rfl, _, hok' p.2 _ z2⟩
    refine ⟨rfl, ⟨fun b o e => ?_, fun b o e => ?_⟩, os, bare⟩
    · by_cases z : b ∈ tb
      · obtain ⟨p, hp, rfl, m, hm⟩ := more b z
        rw [hT p hp] at e
        cases e
        exact .inr (.inl ⟨((hC p hp).tab (hT p hp)).isCodeTable, rfl, #[], m, rfl, by rw [Array.empty_append]; exact hm⟩)
      · exact .inl (same b o z e)
    · by_cases z : b ∈ tb
      · obtain ⟨p, _, rfl, m, hm⟩ := more b z
        exact ⟨_, hm⟩
      · exact ⟨o, same b o z e⟩
/-- what is known of the law's def at the head's heap h -/
def LawG (l : PySem.W.OpenLaw) (w : World) (K : PySem.W.Frag) (k n : Nat) (x : Str) (mg : Str → Option Value) (fa : Addr) (h : Heap) : Prop :=
  ∃ (fd : FuncData) (cs : List (Addr × Addr)) (sp : Sp), (∀ p ∈ cs, h.get? p.2 = some { cls := .none, data := .fields #[] }) ∧ (∀ p ∈ cs, K.lookup p.2 = none) ∧ (∀ p ∈ cs, PySem.W.CodeHd h p.1 p.2) ∧ (∀ (s : Shared) (u : Value), BindsTo s fd ⟨[u], []⟩ [(x, u)]) ∧
    (∀ (H : Hp) (a : Addr) (ns : List Int), ns.length ≤ n → (∀ z ∈ ns, Builtin.Int.intBits z ≤ 1048576) → (∀ p ∈ cs, H p.2 = some (.tbl #[])) → (Rd H a (.lst (ns.map V.int)) ∨ KL K a (ns.map V.int)) → sp [.ref a] H (fun v _ => v = .bl true) fun _ _ _ => False) ∧
    ∀ base : Heap, K.In base → base.Ns mainGlobals mg → (∀ p ∈ cs, LamX.TabB base mg p.1 p.2) → FnG l.prog w K mg base true k fa fd [x] sp
theorem walk_G {l : PySem.W.OpenLaw} {n k : Nat} {q : Program} {loose : List Str} {XP : (Str → Option Value) → Heap → Prop} {YP : World → Heap → Prop} {d : DefRec} {K : Params → PySem.W.Frag} {x : Str} (hn : l.most = some n) (hn2 : n ≤ sizeLine) (hdf : d.params.defaults = []) (hr : Room k callerA) (hY : ∀ (w : World) (h : Heap), YP w h → (K w.params).In h)
    (F : ∀ (w : World) (mg : Str → Option Value) (fa : Addr) (h : Heap), YP w h → (K w.params).In h → h.Ns mainGlobals mg → mg d.name = some (.ref fa) →
      (∀ (y : Str) (c P : Addr), ((recsOf q).find? (fun e => e.name == y)).isSome = true → PySem.W.tabIn (K w.params) y = some (c, P) → PySem.W.CodeHd h c P ∧ h.get? P = some { cls := .none, data := .fields #[] }) → LawG l w (K w.params) k n x mg fa h) :
    PySem.W.WalkO q loose XP YP l.row.toRowW d [] (fun f vs => PySem.call f vs) := by
  refine Att.attach_callB hn hdf fun w s₀ s₁ mg mb fa o pm cd doc a vs ns G Y ho hd hcd hmg hobj hints hlen hbits hgens => ?_
  obtain ⟨fd, cs, sp, hT, nT, hC, hbi, hsp, hF⟩ := F w mg fa _ Y (hY w _ Y) G.T.g hmg fun y c P h1 h2 => by
    obtain ⟨d', hd'⟩ := Option.isSome_iff_exists.mp h1
    exact PySem.W.tab_of G.T (hY w _ Y) hd' h2
  exact law_callG (hY w _ Y) G.T.g G.T.b G.T.builtins G.T.nolimit hgens hT nT hC G.T.bmain hobj hints (Nat.le_trans hlen hn2) hr hF hbi fun H hH hS => hsp H a ns hlen hbits hH hS
end
end Ev
end
section
set_option Elab.async false
set_option linter.all false
set_option maxRecDepth 100000
set_option maxHeartbeats 2000000
/-! Ev: more rules by name: classes, lambdas. -/
namespace Ev
open PySem PySem.Spec PyProof.Rows L2
section
variable {X : Cx} {g : RC} {W : WX} {gd : Bool} {k : Nat} {a e : Expr} {fa f : Ex} {pos p tp : Pos} {fe : FE} {x : Str}
theorem isiB_ok (C : Fits X g W gd k) (co : ClsOk g fe) (T : Ty) (hm : g.mg "isinstance" = none) (hx : g.mg x = none) (ha : PE X a (RdW g fa W)) (hT : ∀ D, T ≠ .cls D) (ex : x = Str.ofString (tyN T)) (hn : x ≠ "__name__") (hg : Gl X "isinstance" := by rfl) (hgx : Gl X x := by rfl) (hd : (x == ("__debug__" : Str)) = false := by decide)
    (he : starEach [a, .Name x tp] X.env = (false, eval a X.env) :: starEach [.Name x tp] X.env := by rfl) (he2 : starEach [.Name x tp] X.env = (false, eval (.Name x tp) X.env) :: starEach [] X.env := by rfl) (hpl : (backTo pos (starEach [.Name x tp] X.env)).any (·.1) = false := by rfl) :
    PE X (.Call (.Name "isinstance" p) [a, .Name x tp] [] pos) (RdE g (eIsi fe T fa) W) := by
  have tv : TyV g T (.ty (tyN T)) (.type (tyN T)) := by cases T <;> first | exact ⟨rfl, rfl⟩ | exact absurd rfl (hT _)
  exact eIsi_ok C co tv hg hm ha (pe_ty tv hgx C.hmg (fun D z => absurd z (hT D)) (fun _ => ⟨by rw [C.hmg]; exact hx, ex⟩) hd hn) he he2 hpl
theorem isiC_ok (C : Fits X g W gd k) (co : ClsOk g fe) (hm : g.mg "isinstance" = none) (hk : ∃ A, g.mg x = some (.ref A)) (ha : PE X a (RdW g fa W)) (hn : x ≠ "__name__") (hg : Gl X "isinstance" := by rfl) (hgx : Gl X x := by rfl) (hd : (x == ("__debug__" : Str)) = false := by decide)
    (he : starEach [a, .Name x tp] X.env = (false, eval a X.env) :: starEach [.Name x tp] X.env := by rfl) (he2 : starEach [.Name x tp] X.env = (false, eval (.Name x tp) X.env) :: starEach [] X.env := by rfl) (hpl : (backTo pos (starEach [.Name x tp] X.env)).any (·.1) = false := by rfl) :
    PE X (.Call (.Name "isinstance" p) [a, .Name x tp] [] pos) (RdE g (eIsi fe (.cls x) fa) W) := by
  obtain ⟨A, hA⟩ := hk
  have tv : TyV g (.cls x) (.ref A) (.ref A) := ⟨A, hA, rfl, rfl⟩
  exact eIsi_ok C co tv hg hm ha (pe_ty tv hgx C.hmg (fun D z => by cases z; rfl) (fun z => absurd rfl (z x)) hd hn) he he2 hpl
/-- the def that catches -/
structure CaughtT (g : RC) (fe : FE) (st : Stmt) : Prop where
  ex : ∃ f fd CS, L2.Fun g.K "_law_caught" "_law_caught" st f fd ∧ g.mg "_law_caught" = some (.ref f) ∧ L2.Binds g.K fd ["work"] [] ∧ g.mg fe.base = some (.ref CS) ∧ CatchOk g fe CS
/-- where a def's lambdas are made -/
structure LamT (base : Heap) (g : RC) (cA P : Addr) (q : Str) : Prop where
  tab : LamX.TabB base g.mg cA P
  mem : (P, q ++ "<lambda>") ∈ g.T
  one : ∀ p ∈ g.T, p.1 = P → p.2 = q ++ "<lambda>"
/-- what the text of that def must say -/
def CaughtG (X : Cx) (st : Stmt) (base : Str) : Prop := ∀ (g' CS : Addr) (cdg : Value) (q : Str), X.mg base = some (.ref CS) → LamX.GivesTo X ["work", "caught", "error"] "_law_caught" (defScope st) g' cdg (defBody st) "work" q (THeld X.K CS)
theorem caught_ok {st : Stmt} {params : Arguments} {body : Expr} {scope : Scope} {lpos : Pos} {cA P : Addr} (C : Fits X g W gd (k + 2)) (ct : CaughtT g fe st) (lt : LamT X.base g cA P X.env.qual) (hcode : X.env.code = .ref cA) (gv : CaughtG X st fe.base) (Sg : FnScope ["work", "caught", "error"] ["work"] (defScope st)) (hva : Vis (defScope st) "work") (L : LamX.LamS X.env.scope scope)
    (hbody : ∀ (A : Around) (outer : List PySem.Env) (s : Shared) (H : Hp) (E : XK) (f' c' : Addr), Fits (LamX.lamCx X A outer s H E scope f' c') g (WK E) false k → PE (LamX.lamCx X A outer s H E scope f' c') body (RdE g f (WK E)))
    (hg : Gl X "_law_caught" := by rfl) (hdef : defaultsOf params X.env = ([], []) := by rfl)
    (hbind : ∀ (q : Str) (cl : List (Str × Addr)) (pm cv ctv : Value), bindArgs (PySem.W.kla_fn "<lambda>" q params body scope cl pm cv ctv) ⟨[], []⟩ = pure [] := by intro _ _ _ _ _; rfl) :
    PE X (.Call (.Name "_law_caught" p) [.Lambda params body scope lpos] [] pos) (RdE g (eCaught fe f) W) := by
  obtain ⟨fA, fd, CS, F, hm, hb, hCS, ck⟩ := ct.ex
  obtain ⟨oc, od, kV, doc, pm, an, cdv, ctv, osl, e1, e2, e3⟩ := F.ex
  subst e1
  exact eCaught_ok C ck hg hm F.kp e2 e3 hb Sg hva (gv _ CS _ _ (by rw [C.hmg]; exact hCS)) (by rw [C.hmg]; exact lt.tab) hcode lt.mem lt.one L hdef hbind hbody
theorem eInt_ok {i : Int} {j} : PE X (.Constant (.int i) j pos) (RdE g (eCon (.int i)) W) := snd_con pe_int fun _ _ => rfl
theorem eStr_ok {s : Str} {j} : PE X (.Constant (.str s) j pos) (RdE g (eCon (.str s)) W) := snd_con pe_str fun _ _ => rfl
theorem eBl_ok {s : Bool} {j} : PE X (.Constant (.bool s) j pos) (RdE g (eCon (.bl s)) W) := snd_con pe_bl fun _ _ => rfl
theorem eNon_ok {j} : PE X (.Constant .none j pos) (RdE g (eCon .non) W) := snd_con pe_non fun _ _ => rfl
theorem eGlS_ok {s : Str} (C : Fits X g W gd k) (h : ∃ u, g.mg x = some u ∧ RelV (.str s) u) (hg : Gl X x := by rfl) (hd : (x == ("__debug__" : Str)) = false := by decide) : PE X (.Name x pos) (RdE g (eCon (.str s)) W) := snd_con (C8.pe_gc hg (by rw [C.hmg]; exact h) hd) fun _ _ => rfl
theorem eGlI_ok {s : Int} (C : Fits X g W gd k) (h : ∃ u, g.mg x = some u ∧ RelV (.int s) u) (hg : Gl X x := by rfl) (hd : (x == ("__debug__" : Str)) = false := by decide) : PE X (.Name x pos) (RdE g (eCon (.int s)) W) := snd_con (C8.pe_gc hg (by rw [C.hmg]; exact h) hd) fun _ _ => rfl
end
/-- a def of the module that makes lambdas -/
theorem CalG.ofL {w : World} {g : RC} {base : Heap} {gd : Bool} {k : Nat} {x : Str} {st : Stmt} {N ps : List Str} {b : Ss} {cA : Addr} (h : ∃ f fd, L2.Fun g.K x x st f fd ∧ g.mg x = some (.ref f) ∧ L2.Binds g.K fd ps [] ∧ fd.code = .ref cA) (S : FnScope N ps (defScope st))
    (hb : ∀ f A outer s H E, Fits (bodyX g.P w g.K g.mg base N x (defScope st) f (.ref cA) A outer s H E) g (WK E) gd k → PSs (bodyX g.P w g.K g.mg base N x (defScope st) f (.ref cA) A outer s H E) (defBody st) (rdS g b E)) :
    CalG g.P w g base gd (k + 1) x st ps (runB N.length b) := by
  obtain ⟨f, fd, F, hm, hbi, hc⟩ := h
  refine ⟨f, fd, F, hm, ?_, hbi⟩
  obtain ⟨oc, od, kV, doc, pm, an, cdv, ct, osl, e1, e2, e3⟩ := F.ex
  subst e1
  obtain rfl : cdv = .ref cA := hc
  refine FnG.of (N := N) e2 e3 S (fun vs H Q E h => h.1) fun A outer s H vs Q E hr hgd h => ⟨_, hb f A outer s H E ⟨rfl, rfl, rfl, hr, hgd, takes_body, S.nd, rfl⟩, rd_start (N := N) h⟩
end Ev
end
section
set_option Elab.async false
set_option linter.all false
set_option maxRecDepth 100000
set_option maxHeartbeats 4000000
/-! Defs of the program and of the laws, by parts: what K89 brings. -/
namespace Pg
open PySem Ev
abbrev N_signs_of_marks : List Str := ["word", "mark"]
def b_signs_of_marks (fe : FE) : Ss :=
  (sSeq (sIf (eBlt .any (esCons (eComp [1] (.name 1) (iSeq (wVar 0)) cYes (eCmp .notin (wVar 1) (eCon (.str ("-0+" : PySem.Str))))) esNil))
    (sSeq (sRet (eCon .non))
    sNil)
    sNil)
  (sSeq (sRet (eBlt .tuple (esCons (eComp [1] (.name 1) (iSeq (wVar 0)) cYes (eBin .sub (eMeth .sindex (eCon (.str ("-0+" : PySem.Str))) (esCons (wVar 1) esNil)) (eCon (.int 1)))) esNil)))
  sNil))
def F_signs_of_marks (fe : FE) : List D → M D := runB 2 (b_signs_of_marks fe)
abbrev N_row_of_text : List Str := ["text", "lines", "words", "found"]
def b_row_of_text (fe : FE) : Ss :=
  (sSeq (sIf (eNot (eIsi fe .str (wVar 0)))
    (sSeq (sRaise "BadText" 1 ["line"] [0] (esCons (eCon (.int 0)) esNil))
    sNil)
    sNil)
  (sSeq (sSet 1 (eMeth .split (eVar 0) (esCons (eCon (.str ("\n" : PySem.Str))) esNil)))
  (sSeq (sSet 2 (eMeth .split (eIdx (wVar 1) (eCon (.int 0))) (esCons (eCon (.str (" " : PySem.Str))) esNil)))
  (sSeq (sIf (eCmp .eq (wVar 2) (eLst (esCons (eCon (.str ("row" : PySem.Str))) esNil)))
    (sSeq (sSet 3 (eTup esNil))
    sNil)
    (sSeq (sSet 3 (eIfe (eAnd (eCmp .eq (eBlt .len (esCons (wVar 2) esNil)) (eCon (.int 2))) (eAnd (eCmp .eq (eIdx (wVar 2) (eCon (.int 0))) (eCon (.str ("row" : PySem.Str)))) (eCmp .ne (eIdx (wVar 2) (eCon (.int 1))) (eCon (.str ("" : PySem.Str)))))) (eCall 1 (F_signs_of_marks fe) (esCons (eIdx (wVar 2) (eCon (.int 1))) esNil)) (eCon .non)))
    sNil))
  (sSeq (sIf (eOr (eCmp .is (wVar 3) (eCon .non)) (eCmp .gt (eBlt .len (esCons (wVar 3) esNil)) (eCon (.int 9))))
    (sSeq (sRaise "BadText" 1 ["line"] [0] (esCons (eCon (.int 1)) esNil))
    sNil)
    sNil)
  (sSeq (sIf (eCmp .gt (eBlt .len (esCons (wVar 1) esNil)) (eCon (.int 1)))
    (sSeq (sRaise "BadText" 1 ["line"] [0] (esCons (eCon (.int 2)) esNil))
    sNil)
    sNil)
  (sSeq (sRet (eVar 3))
  sNil)))))))
def F_row_of_text (fe : FE) : List D → M D := runB 4 (b_row_of_text fe)
abbrev N__law_blended : List Str := ["state", "turn", "found", "prime", "blend", "cell"]
def b__law_blended (fe : FE) : Ss :=
  (sSeq (sPar 1 2 (esCons (eBin .add (eIdx (wVar 0) (eCon (.str ("turn" : PySem.Str)))) (eCon (.int 1))) (esCons (eCon (.int 0)) esNil)))
  (sSeq (sPutL (eVar 0) (eCon (.str ("turn" : PySem.Str))) (eVar 1))
  (sSeq (sFor (.name 3) (iSeq (eLst (esCons (eCon (.int 2147482501)) (esCons (eCon (.int 2147482481)) (esCons (eCon (.int 2147482417)) esNil)))))
    (sSeq (sSet 4 (eBin .add (eBin .mul (eCon (.int 39373)) (wVar 1)) (eBin .fdiv (wVar 3) (eCon (.int 67)))))
    (sSeq (sFor (.name 5) (iSeq (eIdx (wVar 0) (eCon (.str ("cells" : PySem.Str)))))
      (sSeq (sSet 4 (eBin .mod (eBlt .int (esCons (eBin .add (eBin .add (eBin .mul (wVar 4) (eCon (.int 69621))) (wVar 5)) (wVar 1)) esNil)) (wVar 3)))
      sNil))
    (sSeq (sSet 2 (eBin .add (eBin .mul (wVar 2) (eCon (.int 2147483647))) (eBin .mod (eBlt .int (esCons (eBin .pow (wVar 4) (eCon (.int 5))) esNil)) (wVar 3))))
    sNil))))
  (sSeq (sRet (eVar 2))
  sNil))))
def F__law_blended (fe : FE) : List D → M D := runB 6 (b__law_blended fe)
abbrev N__law_draw : List Str := ["state", "size_here", "found"]
def b__law_draw (fe : FE) : Ss :=
  (sSeq (sIf (eCmp .eq (eIdx (wVar 0) (eCon (.str ("left" : PySem.Str)))) (eCon (.int 0)))
    (sSeq (sPutL (eVar 0) (eCon (.str ("left" : PySem.Str))) (eIfe (eCmp .ne (eIdx (wVar 0) (eCon (.str ("great" : PySem.Str)))) (eLst esNil)) (ePop (eIdx (wVar 0) (eCon (.str ("great" : PySem.Str)))) (eCon (.int 0))) (eCall 1 (F__law_blended fe) (esCons (eVar 0) esNil))))
    sNil)
    sNil)
  (sSeq (sSet 2 (eBin .mod (eBlt .int (esCons (eIdx (wVar 0) (eCon (.str ("left" : PySem.Str)))) esNil)) (wVar 1)))
  (sSeq (sPutL (eVar 0) (eCon (.str ("left" : PySem.Str))) (eBin .fdiv (eIdx (wVar 0) (eCon (.str ("left" : PySem.Str)))) (wVar 1)))
  (sSeq (sRet (eVar 2))
  sNil))))
def F__law_draw (fe : FE) : List D → M D := runB 3 (b__law_draw fe)
abbrev N__law_pick : List Str := ["state", "several"]
def b__law_pick (fe : FE) : Ss :=
  (sSeq (sRet (eIdx (wVar 1) (eCall 2 (F__law_draw fe) (esCons (eVar 0) (esCons (eBlt .len (esCons (wVar 1) esNil)) esNil)))))
  sNil)
def F__law_pick (fe : FE) : List D → M D := runB 2 (b__law_pick fe)
abbrev N_marks_of : List Str := ["signs", "sign"]
def b_marks_of (fe : FE) : Ss :=
  (sSeq (sRet (eMeth .join (eCon (.str ("" : PySem.Str))) (esCons (eComp [1] (.name 1) (iSeq (wVar 0)) cYes (eIdx (eCon (.str ("-0+" : PySem.Str))) (eBin .add (wVar 1) (eCon (.int 1))))) esNil)))
  sNil)
def F_marks_of (fe : FE) : List D → M D := runB 2 (b_marks_of fe)
abbrev N_is_whole : List Str := ["value"]
def b_is_whole (fe : FE) : Ss :=
  (sSeq (sRet (eAnd (eIsi fe .int (wVar 0)) (eAnd (eNot (eIsi fe .bool (wVar 0))) (eChain .lt .lt (eNeg (eBin .pow (eCon (.int 10)) (eCon (.int 18)))) (wVar 0) (eBin .pow (eCon (.int 10)) (eCon (.int 18)))))))
  sNil)
def F_is_whole (fe : FE) : List D → M D := runB 1 (b_is_whole fe)
abbrev N_is_number : List Str := ["value", "least", "most"]
def b_is_number (fe : FE) : Ss :=
  (sSeq (sRet (eAnd (eCall 1 (F_is_whole fe) (esCons (eVar 0) esNil)) (eChain .le .le (wVar 1) (wVar 0) (wVar 2))))
  sNil)
def F_is_number (fe : FE) : List D → M D := runB 3 (b_is_number fe)
abbrev N_are_signs : List Str := ["value", "many", "item"]
def b_are_signs (fe : FE) : Ss :=
  (sSeq (sRet (eAnd (eIsi fe .tuple (wVar 0)) (eAnd (eCmp .eq (eBlt .len (esCons (wVar 0) esNil)) (wVar 1)) (eBlt .all (esCons (eComp [2] (.name 2) (iSeq (wVar 0)) cYes (eCall 3 (F_is_number fe) (esCons (eVar 2) (esCons (eNeg (eCon (.int 1))) (esCons (eCon (.int 1)) esNil))))) esNil)))))
  sNil)
def F_are_signs (fe : FE) : List D → M D := runB 3 (b_are_signs fe)
abbrev N_is_row : List Str := ["value"]
def b_is_row (fe : FE) : Ss :=
  (sSeq (sRet (eAnd (eIsi fe .tuple (wVar 0)) (eAnd (eCmp .le (eBlt .len (esCons (wVar 0) esNil)) (eCon (.int 9))) (eCall 2 (F_are_signs fe) (esCons (eVar 0) (esCons (eBlt .len (esCons (wVar 0) esNil)) esNil))))))
  sNil)
def F_is_row (fe : FE) : List D → M D := runB 1 (b_is_row fe)
abbrev N_need_row : List Str := ["row"]
def b_need_row (fe : FE) : Ss :=
  (sSeq (sIf (eNot (eCall 1 (F_is_row fe) (esCons (eVar 0) esNil)))
    (sSeq (sRaise "BadRow" 1 [] [] (esCons (eCon (.str ("no row of signs" : PySem.Str))) esNil))
    sNil)
    sNil)
  sNil)
def F_need_row (fe : FE) : List D → M D := runB 1 (b_need_row fe)
abbrev N_row_text : List Str := ["row"]
def b_row_text (fe : FE) : Ss :=
  (sSeq (sExpr (eCall 1 (F_need_row fe) (esCons (eVar 0) esNil)))
  (sSeq (sRet (eIfe (eCmp .ne (wVar 0) (eTup esNil)) (eBin .add (eCon (.str ("row " : PySem.Str))) (eCall 1 (F_marks_of fe) (esCons (eVar 0) esNil))) (eCon (.str ("row" : PySem.Str)))))
  sNil))
def F_row_text (fe : FE) : List D → M D := runB 1 (b_row_text fe)
abbrev N__law_lv_marks : List Str := ["signs", "sign"]
def b__law_lv_marks (fe : FE) : Ss :=
  (sSeq (sRet (eMeth .join (eCon (.str ("" : PySem.Str))) (esCons (eComp [1] (.name 1) (iSeq (wVar 0)) cYes (eIdx (eCon (.str ("-0+" : PySem.Str))) (eBin .add (wVar 1) (eCon (.int 1))))) esNil)))
  sNil)
def F__law_lv_marks (fe : FE) : List D → M D := runB 2 (b__law_lv_marks fe)
abbrev N__law_tg_row : List Str := ["state", "size", "element"]
def b__law_tg_row (fe : FE) : Ss :=
  (sSeq (sRet (eBlt .tuple (esCons (eComp [2] (.name 2) (iRng1 (eVar 1)) cYes (eBin .sub (eCall 2 (F__law_draw fe) (esCons (eVar 0) (esCons (eCon (.int 3)) esNil))) (eCon (.int 1)))) esNil)))
  sNil)
def F__law_tg_row (fe : FE) : List D → M D := runB 3 (b__law_tg_row fe)
abbrev N__law_begun : List Str := ["script", "great", "cell"]
def b__law_begun (fe : FE) : Ss :=
  (sSeq (sSet 1 (eNewL (eComp [2] (.name 2) (iSeq (wVar 0)) (cOne (eCmp .ge (eBlt .abs (esCons (wVar 2) esNil)) (eBin .pow (eCon (.int 10)) (eCon (.int 18))))) (eBin .sub (eBlt .abs (esCons (wVar 2) esNil)) (eBin .pow (eCon (.int 10)) (eCon (.int 18)))))))
  (sSeq (sRet (eNewL (eDis [.inr ("great" : PySem.Str), .inr ("cells" : PySem.Str), .inr ("left" : PySem.Str), .inr ("turn" : PySem.Str)] (esCons (eVar 1) (esCons (eComp [2] (.name 2) (iSeq (wVar 0)) cYes (eBlt .abs (esCons (wVar 2) esNil))) (esCons (eCon (.int 0)) (esCons (eCon (.int 0)) esNil)))))))
  sNil))
def F__law_begun (fe : FE) : List D → M D := runB 3 (b__law_begun fe)
end Pg
end
section
set_option Elab.async false
set_option linter.all false
set_option maxRecDepth 100000
set_option maxHeartbeats 4000000
/-! K89: the law, by parts. -/
namespace K89
open PySem Ev Pg
def subs : List (Str × Str) := [("SignError", "SignError"), ("BadRow", "BadRow"), ("BadRow", "SignError"), ("BadText", "BadText"), ("BadText", "SignError")]
def fe : FE := { fn := fun _ => none, cls := [("SignError", true), ("BadRow", true), ("BadText", true)], sub := fun a b => subs.contains (a, b), fl := [("BadText", "line")], base := "SignError" }
abbrev N__law_k89_due : List Str := ["lines", "marks", "mark"]
def b__law_k89_due (fe : FE) : Ss :=
  (sSeq (sSet 1 (eIfe (eCmp .eq (eSli (eIdx (wVar 0) (eCon (.int 0))) oNone (oSome (eCon (.int 4)))) (eCon (.str ("row " : PySem.Str)))) (eSli (eIdx (wVar 0) (eCon (.int 0))) (oSome (eCon (.int 4))) oNone) (eCon (.str ("" : PySem.Str)))))
  (sSeq (sIf (eAnd (eCmp .ne (eIdx (wVar 0) (eCon (.int 0))) (eCon (.str ("row" : PySem.Str)))) (eOr (eCmp .eq (wVar 1) (eCon (.str ("" : PySem.Str)))) (eOr (eCmp .gt (eBlt .len (esCons (wVar 1) esNil)) (eCon (.int 9))) (eCmp .ne (eComp [2] (.name 2) (iSeq (wVar 1)) (cOne (eCmp .notin (wVar 2) (eCon (.str ("-0+" : PySem.Str))))) (eCon (.int 1))) (eLst esNil)))))
    (sSeq (sRet (eTup (esCons (eCon (.int 1)) (esCons (eCon .non) esNil))))
    sNil)
    sNil)
  (sSeq (sRet (eIfe (eCmp .gt (eBlt .len (esCons (wVar 0) esNil)) (eCon (.int 1))) (eTup (esCons (eCon (.int 2)) (esCons (eCon .non) esNil))) (eTup (esCons (eNeg (eCon (.int 1))) (esCons (eBlt .tuple (esCons (eComp [2] (.name 2) (iSeq (wVar 1)) cYes (eBin .sub (eMeth .sindex (eCon (.str ("-0+" : PySem.Str))) (esCons (wVar 2) esNil)) (eCon (.int 1)))) esNil)) esNil)))))
  sNil)))
def F__law_k89_due (fe : FE) : List D → M D := runB 3 (b__law_k89_due fe)
abbrev N_law : List Str := ["script", "state", "turn", "row", "text", "lap", "caught", "spot", "sign", "near", "box", "due", "found"]
def b_law (fe : FE) : Ss :=
  (sSeq (sSet 1 (eCall 1 (F__law_begun fe) (esCons (eVar 0) esNil)))
  (sSeq (sFor (.name 2) (iRng1 (eBin .add (eCon (.int 4)) (eBlt .min (esCons (eBlt .len (esCons (wVar 0) esNil)) (esCons (eCon (.int 5)) esNil)))))
    (sSeq (sSet 3 (eCall 2 (F__law_tg_row fe) (esCons (eVar 1) (esCons (eCall 2 (F__law_draw fe) (esCons (eVar 1) (esCons (eCon (.int 10)) esNil))) esNil))))
    (sSeq (sSet 4 (eIfe (eCmp .ne (wVar 3) (eTup esNil)) (eBin .add (eCon (.str ("row " : PySem.Str))) (eCall 1 (F__law_lv_marks fe) (esCons (eVar 3) esNil))) (eCon (.str ("row" : PySem.Str)))))
    (sSeq (sIf (eOr (eCmp .ne (eCall 1 (F_row_text fe) (esCons (eVar 3) esNil)) (wVar 4)) (eOr (eCmp .ne (eCallK [0] 0 1 1 (F_row_text fe) esNil (esCons (eVar 3) esNil)) (wVar 4)) (eCmp .ne (eBlt .repr (esCons (eLst (esCons (eCall 1 (F_row_of_text fe) (esCons (eVar 4) esNil)) (esCons (eCallK [0] 0 1 1 (F_row_of_text fe) esNil (esCons (eVar 4) esNil)) esNil))) esNil)) (eBlt .repr (esCons (eLst (esCons (eVar 3) (esCons (eVar 3) esNil))) esNil)))))
      (sSeq (sRet (eCon (.bl false)))
      sNil)
      sNil)
    (sSeq (sFor (.name 5) (iRng1 (eCon (.int 8)))
      (sSeq (sSet 7 (eCall 2 (F__law_draw fe) (esCons (eVar 1) (esCons (eBin .add (eBlt .len (esCons (wVar 4) esNil)) (eCon (.int 1))) esNil))))
      (sSeq (sSet 8 (eCall 2 (F__law_pick fe) (esCons (eVar 1) (esCons (eLst (esCons (eCon (.str ("-" : PySem.Str))) (esCons (eCon (.str ("0" : PySem.Str))) (esCons (eCon (.str ("+" : PySem.Str))) (esCons (eCon (.str ("+" : PySem.Str))) (esCons (eCon (.str ("1" : PySem.Str))) (esCons (eCon (.str (" " : PySem.Str))) (esCons (eCon (.str ("" : PySem.Str))) (esCons (eCon (.str ("a" : PySem.Str))) (esCons (eCon (.str ("\n" : PySem.Str))) (esCons (eCon (.str ("row" : PySem.Str))) esNil))))))))))) esNil))))
      (sSeq (sAsg (.tup [(.name 9), (.name 10)]) (eTup (esCons (eBin .add (eBin .add (eSli (wVar 4) oNone (oSome (eVar 7))) (wVar 8)) (eSli (wVar 4) (oSome (eBin .add (wVar 7) (eCall 2 (F__law_draw fe) (esCons (eVar 1) (esCons (eCon (.int 2)) esNil))))) oNone)) (esCons (eNewL (eLst esNil)) esNil))))
      (sSeq (sAsg (.tup [(.name 11), (.name 12)]) (eCall 1 (F__law_k89_due fe) (esCons (eMeth .split (eVar 9) (esCons (eCon (.str ("\n" : PySem.Str))) esNil)) esNil)))
      (sSeq (sSet 6 (eCaught fe (eApp (eVar 10) (eCall 1 (F_row_of_text fe) (esCons (eVar 9) esNil)))))
      (sSeq (sIf (eAnd (eCmp .eq (wVar 11) (eNeg (eCon (.int 1)))) (eOr (eCmp .isnot (wVar 6) (eCon .non)) (eOr (eCmp .ne (eBlt .repr (esCons (eIdx (wVar 10) (eCon (.int 0))) esNil)) (eBlt .repr (esCons (wVar 12) esNil))) (eCmp .ne (eCall 1 (F_row_text fe) (esCons (eIdx (wVar 10) (eCon (.int 0))) esNil)) (wVar 9)))))
        (sSeq (sRet (eCon (.bl false)))
        sNil)
        sNil)
      (sSeq (sIf (eAnd (eCmp .ne (wVar 11) (eNeg (eCon (.int 1)))) (eOr (eNot (eIsi fe (.cls "BadText") (wVar 6))) (eCmp .ne (eBlt .repr (esCons (eFld fe (eVar 6) "line") esNil)) (eBlt .repr (esCons (wVar 11) esNil)))))
        (sSeq (sRet (eCon (.bl false)))
        sNil)
        sNil)
      sNil))))))))
    (sSeq (sIf (eNot (eIsi fe (.cls "BadRow") (eCaught fe (eCall 1 (F_row_text fe) (esCons (eCall 2 (F__law_pick fe) (esCons (eVar 1) (esCons (eLst (esCons (eCon .non) (esCons (eLst (esCons (eCon (.int 0)) esNil)) (esCons (eTup (esCons (eCon (.int 2)) esNil)) (esCons (eTup (esCons (eCon (.bl true)) esNil)) (esCons (eBin .mul (eTup (esCons (eCon (.int 0)) esNil)) (eCon (.int 10))) (esCons (eCon (.str ("row" : PySem.Str))) (esCons (eTup (esCons (eCon (.int 0)) (esCons (eCon .non) esNil))) esNil)))))))) esNil))) esNil)))))
      (sSeq (sRet (eCon (.bl false)))
      sNil)
      sNil)
    (sSeq (sSet 6 (eCaught fe (eCall 1 (F_row_of_text fe) (esCons (eCall 2 (F__law_pick fe) (esCons (eVar 1) (esCons (eLst (esCons (eCon .non) (esCons (eCon (.int 5)) (esCons (eTup esNil) (esCons (eVar 3) (esCons (eCon (.bl true)) esNil)))))) esNil))) esNil))))
    (sSeq (sIf (eOr (eNot (eIsi fe (.cls "BadText") (wVar 6))) (eCmp .ne (eBlt .repr (esCons (eFld fe (eVar 6) "line") esNil)) (eCon (.str ("0" : PySem.Str)))))
      (sSeq (sRet (eCon (.bl false)))
      sNil)
      sNil)
    sNil))))))))
  (sSeq (sRet (eCon (.bl true)))
  sNil)))
def F_law (fe : FE) : List D → M D := runB 13 (b_law fe)
end K89
end
section
set_option Elab.async false
set_option linter.all false
set_option maxRecDepth 100000
set_option maxHeartbeats 4000000
/-! K89: the walk: each def comes to its parts. -/
namespace K89
open PySem PySem.Spec PyProof.Rows L2 Ev Pg
def top (i : Nat) : Stmt := PySem.Challenge.pw_signsalone_k89_texts_of_rows.main.body.getD i (.Pass ⟨0, 0, 0, 0⟩)
abbrev s__law_caught : Stmt := top 23
abbrev s_signs_of_marks : Stmt := top 15
abbrev s_row_of_text : Stmt := top 17
abbrev s__law_blended : Stmt := top 20
abbrev s__law_draw : Stmt := top 21
abbrev s__law_pick : Stmt := top 22
abbrev s_marks_of : Stmt := top 14
abbrev s_is_whole : Stmt := top 5
abbrev s_is_number : Stmt := top 6
abbrev s_are_signs : Stmt := top 9
abbrev s_is_row : Stmt := top 10
abbrev s_need_row : Stmt := top 11
abbrev s_row_text : Stmt := top 16
abbrev s__law_k89_due : Stmt := top 26
abbrev s__law_lv_marks : Stmt := top 25
abbrev s__law_tg_row : Stmt := top 24
abbrev s__law_begun : Stmt := top 19
abbrev s_law : Stmt := top 27
structure Tx (g : RC) (cA : Addr) : Prop where
  d_signs_of_marks : ∃ f fd, L2.Fun g.K "signs_of_marks" "signs_of_marks" s_signs_of_marks f fd ∧ g.mg "signs_of_marks" = some (.ref f) ∧ L2.Binds g.K fd ["word"] []
  d_row_of_text : ∃ f fd, L2.Fun g.K "row_of_text" "row_of_text" s_row_of_text f fd ∧ g.mg "row_of_text" = some (.ref f) ∧ L2.Binds g.K fd ["text"] []
  d__law_blended : ∃ f fd, L2.Fun g.K "_law_blended" "_law_blended" s__law_blended f fd ∧ g.mg "_law_blended" = some (.ref f) ∧ L2.Binds g.K fd ["state"] []
  d__law_draw : ∃ f fd, L2.Fun g.K "_law_draw" "_law_draw" s__law_draw f fd ∧ g.mg "_law_draw" = some (.ref f) ∧ L2.Binds g.K fd ["state", "size_here"] []
  d__law_pick : ∃ f fd, L2.Fun g.K "_law_pick" "_law_pick" s__law_pick f fd ∧ g.mg "_law_pick" = some (.ref f) ∧ L2.Binds g.K fd ["state", "several"] []
  d_marks_of : ∃ f fd, L2.Fun g.K "marks_of" "marks_of" s_marks_of f fd ∧ g.mg "marks_of" = some (.ref f) ∧ L2.Binds g.K fd ["signs"] []
  d_is_whole : ∃ f fd, L2.Fun g.K "is_whole" "is_whole" s_is_whole f fd ∧ g.mg "is_whole" = some (.ref f) ∧ L2.Binds g.K fd ["value"] []
  d_is_number : ∃ f fd, L2.Fun g.K "is_number" "is_number" s_is_number f fd ∧ g.mg "is_number" = some (.ref f) ∧ L2.Binds g.K fd ["value", "least", "most"] []
  d_are_signs : ∃ f fd, L2.Fun g.K "are_signs" "are_signs" s_are_signs f fd ∧ g.mg "are_signs" = some (.ref f) ∧ L2.Binds g.K fd ["value", "many"] []
  d_is_row : ∃ f fd, L2.Fun g.K "is_row" "is_row" s_is_row f fd ∧ g.mg "is_row" = some (.ref f) ∧ L2.Binds g.K fd ["value"] []
  d_need_row : ∃ f fd, L2.Fun g.K "need_row" "need_row" s_need_row f fd ∧ g.mg "need_row" = some (.ref f) ∧ L2.Binds g.K fd ["row"] []
  d_row_text : ∃ f fd, L2.Fun g.K "row_text" "row_text" s_row_text f fd ∧ g.mg "row_text" = some (.ref f) ∧ L2.Binds g.K fd ["row"] []
  d__law_k89_due : ∃ f fd, L2.Fun g.K "_law_k89_due" "_law_k89_due" s__law_k89_due f fd ∧ g.mg "_law_k89_due" = some (.ref f) ∧ L2.Binds g.K fd ["lines"] []
  d__law_lv_marks : ∃ f fd, L2.Fun g.K "_law_lv_marks" "_law_lv_marks" s__law_lv_marks f fd ∧ g.mg "_law_lv_marks" = some (.ref f) ∧ L2.Binds g.K fd ["signs"] []
  d__law_tg_row : ∃ f fd, L2.Fun g.K "_law_tg_row" "_law_tg_row" s__law_tg_row f fd ∧ g.mg "_law_tg_row" = some (.ref f) ∧ L2.Binds g.K fd ["state", "size"] []
  d__law_begun : ∃ f fd, L2.Fun g.K "_law_begun" "_law_begun" s__law_begun f fd ∧ g.mg "_law_begun" = some (.ref f) ∧ L2.Binds g.K fd ["script"] []
  d_law : ∃ f fd, L2.Fun g.K "law" "law" s_law f fd ∧ g.mg "law" = some (.ref f) ∧ L2.Binds g.K fd ["script"] [] ∧ fd.code = .ref cA
  n_abs : g.mg "abs" = none
  n_all : g.mg "all" = none
  n_any : g.mg "any" = none
  n_bool : g.mg "bool" = none
  n_int : g.mg "int" = none
  n_isinstance : g.mg "isinstance" = none
  n_len : g.mg "len" = none
  n_min : g.mg "min" = none
  n_range : g.mg "range" = none
  n_repr : g.mg "repr" = none
  n_str : g.mg "str" = none
  n_tuple : g.mg "tuple" = none
  c_MARKS : ∃ u, g.mg "MARKS" = some u ∧ RelV (.str ("-0+" : PySem.Str)) u
  c_MOST_ELEMENTS : ∃ u, g.mg "MOST_ELEMENTS" = some u ∧ RelV (.int 9) u
  k_BadRow : ∃ A, g.mg "BadRow" = some (.ref A)
  k_BadText : ∃ A, g.mg "BadText" = some (.ref A)
  mk_BadRow : MkOk g 1 "BadRow" 1 [] []
  mk_BadText : MkOk g 1 "BadText" 1 ["line"] [0]
  co : ClsOk g fe
  caught : CaughtT g fe s__law_caught
variable {w : World} {g : RC} {base : Heap} {cA PA : Addr}
theorem sc__law_caught : FnScope ["work", "caught", "error"] ["work"] (defScope s__law_caught) := ⟨rfl, rfl, rfl, by decide +kernel, rfl, by decide +kernel, by decide +kernel⟩
theorem gv_caught {X : Cx} : CaughtG X s__law_caught fe.base := fun g' CS cdg q h => held_gives (by decide +kernel) rfl rfl rfl h (by decide) (by decide) (by decide) (by decide) (by decide) (fun Y e => by first | rfl | (unfold swapsWith; simp)) (fun Y e => by first | rfl | (unfold swapsWith; simp)) (fun Y e => by first | rfl | (unfold swapsWith; simp))
theorem sc_signs_of_marks : FnScope N_signs_of_marks ["word"] (defScope s_signs_of_marks) := ⟨rfl, rfl, rfl, by decide +kernel, rfl, by decide +kernel, by decide +kernel⟩
theorem ok_signs_of_marks (T : Tx g cA)  : CalG g.P w g base false 2 "signs_of_marks" s_signs_of_marks ["word"] (F_signs_of_marks fe) :=
  CalG.of (N := N_signs_of_marks) (k := 1) T.d_signs_of_marks sc_signs_of_marks fun f cdv A outer s H E C =>
  (sSeq_ok (sIf_ok (tVal_ok (eBlt_ok C .any (fun z => nomatch z) rfl T.n_any (wsCons_ok (up_ok (eComp_ok (fComp_ok [("mark", 1)] C (iSeqW_ok C (wVar_ok (pe_var (i := 0) rfl (by first | exact Or.inl rfl | exact Or.inr (Or.inl rfl) | exact Or.inr (Or.inr rfl))))) (blkOk_by (own := [("mark", 1)]) (N := N_signs_of_marks) (sc := defScope s_signs_of_marks) (by decide +kernel)) (fun _ _ _ _ _ C' => (gName_ok (pg_name (i := 1) C'.nd rfl (by first | exact Or.inl rfl | exact Or.inr rfl)))) (fun _ _ _ _ _ C' => cYes_ok) (fun _ _ _ _ _ C' => (eCmp_ok C' .notin (wVar_ok (pe_var (i := 1) rfl (by first | exact Or.inl rfl | exact Or.inr (Or.inl rfl) | exact Or.inr (Or.inr rfl)))) (up_ok (eGlS_ok C' T.c_MARKS))))))) (wsNil_ok))))
    (sSeq_ok (sRet_ok eNon_ok)
    sNil_ok)
    sNil_ok)
  (sSeq_ok (sRet_ok (eBlt_ok C .tuple (fun z => nomatch z) rfl T.n_tuple (wsCons_ok (up_ok (eComp_ok (fComp_ok [("mark", 1)] C (iSeqW_ok C (wVar_ok (pe_var (i := 0) rfl (by first | exact Or.inl rfl | exact Or.inr (Or.inl rfl) | exact Or.inr (Or.inr rfl))))) (blkOk_by (own := [("mark", 1)]) (N := N_signs_of_marks) (sc := defScope s_signs_of_marks) (by decide +kernel)) (fun _ _ _ _ _ C' => (gName_ok (pg_name (i := 1) C'.nd rfl (by first | exact Or.inl rfl | exact Or.inr rfl)))) (fun _ _ _ _ _ C' => cYes_ok) (fun _ _ _ _ _ C' => (eBin_ok C' .sub (up_ok (eMeth_ok C' .sindex (eGlS_ok C' T.c_MARKS) (wsCons_ok (wVar_ok (pe_var (i := 1) rfl (by first | exact Or.inl rfl | exact Or.inr (Or.inl rfl) | exact Or.inr (Or.inr rfl)))) (wsNil_ok)))) (up_ok eInt_ok)))))) (wsNil_ok))))
  sNil_ok))
theorem sc_row_of_text : FnScope N_row_of_text ["text"] (defScope s_row_of_text) := ⟨rfl, rfl, rfl, by decide +kernel, rfl, by decide +kernel, by decide +kernel⟩
theorem ok_row_of_text (T : Tx g cA) (c_signs_of_marks : CalG g.P w g base false 2 "signs_of_marks" s_signs_of_marks ["word"] (F_signs_of_marks fe)) : CalG g.P w g base false 3 "row_of_text" s_row_of_text ["text"] (F_row_of_text fe) :=
  CalG.of (N := N_row_of_text) (k := 2) T.d_row_of_text sc_row_of_text fun f cdv A outer s H E C =>
  (sSeq_ok (sIf_ok (tNot_ok (tVal_ok (isiB_ok C T.co .str T.n_isinstance T.n_str (wVar_ok (pe_var (i := 0) rfl (by first | exact Or.inl rfl | exact Or.inr (Or.inl rfl) | exact Or.inr (Or.inr rfl)))) (fun _ z => nomatch z) rfl (by decide))))
    (sSeq_ok (sRaise_ok C T.mk_BadText (by decide) rfl rfl (esCons_ok eInt_ok (esNil_ok)))
    sNil_ok)
    sNil_ok)
  (sSeq_ok (sSet_ok C rfl (by first | exact Or.inl rfl | exact Or.inr rfl) (Or.inl rfl) (eMeth_ok C .split (eVar_ok (pe_var (i := 0) rfl (by first | exact Or.inl rfl | exact Or.inr (Or.inl rfl) | exact Or.inr (Or.inr rfl)))) (wsCons_ok (up_ok eStr_ok) (wsNil_ok))))
  (sSeq_ok (sSet_ok C rfl (by first | exact Or.inl rfl | exact Or.inr rfl) (Or.inl rfl) (eMeth_ok C .split (eIdx_ok C (wVar_ok (pe_var (i := 1) rfl (by first | exact Or.inl rfl | exact Or.inr (Or.inl rfl) | exact Or.inr (Or.inr rfl)))) eInt_ok) (wsCons_ok (up_ok eStr_ok) (wsNil_ok))))
  (sSeq_ok (sIf_ok (tCmp_ok C .eq (wVar_ok (pe_var (i := 2) rfl (by first | exact Or.inl rfl | exact Or.inr (Or.inl rfl) | exact Or.inr (Or.inr rfl)))) (up_ok (eLst_ok (esCons_ok eStr_ok (esNil_ok)))))
    (sSeq_ok (sSet_ok C rfl (by first | exact Or.inl rfl | exact Or.inr rfl) (Or.inl rfl) (eTup_ok (esNil_ok)))
    sNil_ok)
    (sSeq_ok (sSet_ok C rfl (by first | exact Or.inl rfl | exact Or.inr rfl) (Or.inl rfl) (eIfe_ok (PW.pt (wAnd_ok (tCmp_ok C .eq (up_ok (eBlt_ok C .len (fun z => nomatch z) rfl T.n_len (wsCons_ok (wVar_ok (pe_var (i := 2) rfl (by first | exact Or.inl rfl | exact Or.inr (Or.inl rfl) | exact Or.inr (Or.inr rfl)))) (wsNil_ok)))) (up_ok eInt_ok)) (wAnd_ok (tCmp_ok C .eq (up_ok (eIdx_ok C (wVar_ok (pe_var (i := 2) rfl (by first | exact Or.inl rfl | exact Or.inr (Or.inl rfl) | exact Or.inr (Or.inr rfl)))) eInt_ok)) (up_ok eStr_ok)) (pw_and1 (tCmp_ok C .ne (up_ok (eIdx_ok C (wVar_ok (pe_var (i := 2) rfl (by first | exact Or.inl rfl | exact Or.inr (Or.inl rfl) | exact Or.inr (Or.inr rfl)))) eInt_ok)) (up_ok eStr_ok)))))) (eCall_ok C c_signs_of_marks (by decide) (fun z => nomatch z) rfl (esCons_ok (eIdx_ok C (wVar_ok (pe_var (i := 2) rfl (by first | exact Or.inl rfl | exact Or.inr (Or.inl rfl) | exact Or.inr (Or.inr rfl)))) eInt_ok) (esNil_ok)) 1) eNon_ok))
    sNil_ok))
  (sSeq_ok (sIf_ok (PW.pt (wOr_ok (tCmp_ok C .is (wVar_ok (pe_var (i := 3) rfl (by first | exact Or.inl rfl | exact Or.inr (Or.inl rfl) | exact Or.inr (Or.inr rfl)))) (up_ok eNon_ok)) (pw_or1 (tCmp_ok C .gt (up_ok (eBlt_ok C .len (fun z => nomatch z) rfl T.n_len (wsCons_ok (wVar_ok (pe_var (i := 3) rfl (by first | exact Or.inl rfl | exact Or.inr (Or.inl rfl) | exact Or.inr (Or.inr rfl)))) (wsNil_ok)))) (up_ok (eGlI_ok C T.c_MOST_ELEMENTS))))))
    (sSeq_ok (sRaise_ok C T.mk_BadText (by decide) rfl rfl (esCons_ok eInt_ok (esNil_ok)))
    sNil_ok)
    sNil_ok)
  (sSeq_ok (sIf_ok (tCmp_ok C .gt (up_ok (eBlt_ok C .len (fun z => nomatch z) rfl T.n_len (wsCons_ok (wVar_ok (pe_var (i := 1) rfl (by first | exact Or.inl rfl | exact Or.inr (Or.inl rfl) | exact Or.inr (Or.inr rfl)))) (wsNil_ok)))) (up_ok eInt_ok))
    (sSeq_ok (sRaise_ok C T.mk_BadText (by decide) rfl rfl (esCons_ok eInt_ok (esNil_ok)))
    sNil_ok)
    sNil_ok)
  (sSeq_ok (sRet_ok (eVar_ok (pe_var (i := 3) rfl (by first | exact Or.inl rfl | exact Or.inr (Or.inl rfl) | exact Or.inr (Or.inr rfl)))))
  sNil_ok)))))))
theorem sc__law_blended : FnScope N__law_blended ["state"] (defScope s__law_blended) := ⟨rfl, rfl, rfl, by decide +kernel, rfl, by decide +kernel, by decide +kernel⟩
theorem ok__law_blended (T : Tx g cA)  : CalG g.P w g base false 2 "_law_blended" s__law_blended ["state"] (F__law_blended fe) :=
  CalG.of (N := N__law_blended) (k := 1) T.d__law_blended sc__law_blended fun f cdv A outer s H E C =>
  (sSeq_ok (sPar_ok C rfl rfl (by decide) rfl rfl (esCons_ok (eBin_ok C .add (up_ok (eIdx_ok C (wVar_ok (pe_var (i := 0) rfl (by first | exact Or.inl rfl | exact Or.inr (Or.inl rfl) | exact Or.inr (Or.inr rfl)))) eStr_ok)) (up_ok eInt_ok)) (esCons_ok eInt_ok (esNil_ok))))
  (sSeq_ok (sPutL_ok C (eVar_ok (pe_var (i := 1) rfl (by first | exact Or.inl rfl | exact Or.inr (Or.inl rfl) | exact Or.inr (Or.inr rfl)))) (eVar_ok (pe_var (i := 0) rfl (by first | exact Or.inl rfl | exact Or.inr (Or.inl rfl) | exact Or.inr (Or.inr rfl)))) eStr_ok)
  (sSeq_ok (sFor_ok C own_body (iSeq_ok C (eLst_ok (esCons_ok eInt_ok (esCons_ok eInt_ok (esCons_ok eInt_ok (esNil_ok)))))) (gName_ok (pg_name (i := 3) C.nd rfl (by first | exact Or.inl rfl | exact Or.inr rfl)))
    (sSeq_ok (sSet_ok C rfl (by first | exact Or.inl rfl | exact Or.inr rfl) (Or.inl rfl) (eBin_ok C .add (up_ok (eBin_ok C .mul (up_ok eInt_ok) (wVar_ok (pe_var (i := 1) rfl (by first | exact Or.inl rfl | exact Or.inr (Or.inl rfl) | exact Or.inr (Or.inr rfl)))))) (up_ok (eBin_ok C .fdiv (wVar_ok (pe_var (i := 3) rfl (by first | exact Or.inl rfl | exact Or.inr (Or.inl rfl) | exact Or.inr (Or.inr rfl)))) (up_ok eInt_ok)))))
    (sSeq_ok (sFor_ok C own_body (iSeq_ok C (eIdx_ok C (wVar_ok (pe_var (i := 0) rfl (by first | exact Or.inl rfl | exact Or.inr (Or.inl rfl) | exact Or.inr (Or.inr rfl)))) eStr_ok)) (gName_ok (pg_name (i := 5) C.nd rfl (by first | exact Or.inl rfl | exact Or.inr rfl)))
      (sSeq_ok (sSet_ok C rfl (by first | exact Or.inl rfl | exact Or.inr rfl) (Or.inl rfl) (eBin_ok C .mod (up_ok (eBlt_ok C .int (fun z => nomatch z) rfl T.n_int (wsCons_ok (up_ok (eBin_ok C .add (up_ok (eBin_ok C .add (up_ok (eBin_ok C .mul (wVar_ok (pe_var (i := 4) rfl (by first | exact Or.inl rfl | exact Or.inr (Or.inl rfl) | exact Or.inr (Or.inr rfl)))) (up_ok eInt_ok))) (wVar_ok (pe_var (i := 5) rfl (by first | exact Or.inl rfl | exact Or.inr (Or.inl rfl) | exact Or.inr (Or.inr rfl)))))) (wVar_ok (pe_var (i := 1) rfl (by first | exact Or.inl rfl | exact Or.inr (Or.inl rfl) | exact Or.inr (Or.inr rfl)))))) (wsNil_ok)))) (wVar_ok (pe_var (i := 3) rfl (by first | exact Or.inl rfl | exact Or.inr (Or.inl rfl) | exact Or.inr (Or.inr rfl))))))
      sNil_ok))
    (sSeq_ok (sSet_ok C rfl (by first | exact Or.inl rfl | exact Or.inr rfl) (Or.inl rfl) (eBin_ok C .add (up_ok (eBin_ok C .mul (wVar_ok (pe_var (i := 2) rfl (by first | exact Or.inl rfl | exact Or.inr (Or.inl rfl) | exact Or.inr (Or.inr rfl)))) (up_ok eInt_ok))) (up_ok (eBin_ok C .mod (up_ok (eBlt_ok C .int (fun z => nomatch z) rfl T.n_int (wsCons_ok (up_ok (eBin_ok C .pow (wVar_ok (pe_var (i := 4) rfl (by first | exact Or.inl rfl | exact Or.inr (Or.inl rfl) | exact Or.inr (Or.inr rfl)))) (up_ok eInt_ok))) (wsNil_ok)))) (wVar_ok (pe_var (i := 3) rfl (by first | exact Or.inl rfl | exact Or.inr (Or.inl rfl) | exact Or.inr (Or.inr rfl))))))))
    sNil_ok))))
  (sSeq_ok (sRet_ok (eVar_ok (pe_var (i := 2) rfl (by first | exact Or.inl rfl | exact Or.inr (Or.inl rfl) | exact Or.inr (Or.inr rfl)))))
  sNil_ok))))
theorem sc__law_draw : FnScope N__law_draw ["state", "size_here"] (defScope s__law_draw) := ⟨rfl, rfl, rfl, by decide +kernel, rfl, by decide +kernel, by decide +kernel⟩
theorem ok__law_draw (T : Tx g cA) (c__law_blended : CalG g.P w g base false 2 "_law_blended" s__law_blended ["state"] (F__law_blended fe)) : CalG g.P w g base false 3 "_law_draw" s__law_draw ["state", "size_here"] (F__law_draw fe) :=
  CalG.of (N := N__law_draw) (k := 2) T.d__law_draw sc__law_draw fun f cdv A outer s H E C =>
  (sSeq_ok (sIf_ok (tCmp_ok C .eq (up_ok (eIdx_ok C (wVar_ok (pe_var (i := 0) rfl (by first | exact Or.inl rfl | exact Or.inr (Or.inl rfl) | exact Or.inr (Or.inr rfl)))) eStr_ok)) (up_ok eInt_ok))
    (sSeq_ok (sPutL_ok C (eIfe_ok (tCmp_ok C .ne (up_ok (eIdx_ok C (wVar_ok (pe_var (i := 0) rfl (by first | exact Or.inl rfl | exact Or.inr (Or.inl rfl) | exact Or.inr (Or.inr rfl)))) eStr_ok)) (up_ok (eLst_ok (esNil_ok)))) (ePop_ok (eIdx_ok C (wVar_ok (pe_var (i := 0) rfl (by first | exact Or.inl rfl | exact Or.inr (Or.inl rfl) | exact Or.inr (Or.inr rfl)))) eStr_ok) eInt_ok) (eCall_ok C c__law_blended (by decide) (fun z => nomatch z) rfl (esCons_ok (eVar_ok (pe_var (i := 0) rfl (by first | exact Or.inl rfl | exact Or.inr (Or.inl rfl) | exact Or.inr (Or.inr rfl)))) (esNil_ok)) 1)) (eVar_ok (pe_var (i := 0) rfl (by first | exact Or.inl rfl | exact Or.inr (Or.inl rfl) | exact Or.inr (Or.inr rfl)))) eStr_ok)
    sNil_ok)
    sNil_ok)
  (sSeq_ok (sSet_ok C rfl (by first | exact Or.inl rfl | exact Or.inr rfl) (Or.inl rfl) (eBin_ok C .mod (up_ok (eBlt_ok C .int (fun z => nomatch z) rfl T.n_int (wsCons_ok (up_ok (eIdx_ok C (wVar_ok (pe_var (i := 0) rfl (by first | exact Or.inl rfl | exact Or.inr (Or.inl rfl) | exact Or.inr (Or.inr rfl)))) eStr_ok)) (wsNil_ok)))) (wVar_ok (pe_var (i := 1) rfl (by first | exact Or.inl rfl | exact Or.inr (Or.inl rfl) | exact Or.inr (Or.inr rfl))))))
  (sSeq_ok (sPutL_ok C (eBin_ok C .fdiv (up_ok (eIdx_ok C (wVar_ok (pe_var (i := 0) rfl (by first | exact Or.inl rfl | exact Or.inr (Or.inl rfl) | exact Or.inr (Or.inr rfl)))) eStr_ok)) (wVar_ok (pe_var (i := 1) rfl (by first | exact Or.inl rfl | exact Or.inr (Or.inl rfl) | exact Or.inr (Or.inr rfl))))) (eVar_ok (pe_var (i := 0) rfl (by first | exact Or.inl rfl | exact Or.inr (Or.inl rfl) | exact Or.inr (Or.inr rfl)))) eStr_ok)
  (sSeq_ok (sRet_ok (eVar_ok (pe_var (i := 2) rfl (by first | exact Or.inl rfl | exact Or.inr (Or.inl rfl) | exact Or.inr (Or.inr rfl)))))
  sNil_ok))))
theorem sc__law_pick : FnScope N__law_pick ["state", "several"] (defScope s__law_pick) := ⟨rfl, rfl, rfl, by decide +kernel, rfl, by decide +kernel, by decide +kernel⟩
theorem ok__law_pick (T : Tx g cA) (c__law_draw : CalG g.P w g base false 3 "_law_draw" s__law_draw ["state", "size_here"] (F__law_draw fe)) : CalG g.P w g base false 4 "_law_pick" s__law_pick ["state", "several"] (F__law_pick fe) :=
  CalG.of (N := N__law_pick) (k := 3) T.d__law_pick sc__law_pick fun f cdv A outer s H E C =>
  (sSeq_ok (sRet_ok (eIdx_ok C (wVar_ok (pe_var (i := 1) rfl (by first | exact Or.inl rfl | exact Or.inr (Or.inl rfl) | exact Or.inr (Or.inr rfl)))) (eCall_ok C c__law_draw (by decide) (fun z => nomatch z) rfl (esCons_ok (eVar_ok (pe_var (i := 0) rfl (by first | exact Or.inl rfl | exact Or.inr (Or.inl rfl) | exact Or.inr (Or.inr rfl)))) (esCons_ok (eBlt_ok C .len (fun z => nomatch z) rfl T.n_len (wsCons_ok (wVar_ok (pe_var (i := 1) rfl (by first | exact Or.inl rfl | exact Or.inr (Or.inl rfl) | exact Or.inr (Or.inr rfl)))) (wsNil_ok))) (esNil_ok))) 2)))
  sNil_ok)
theorem sc_marks_of : FnScope N_marks_of ["signs"] (defScope s_marks_of) := ⟨rfl, rfl, rfl, by decide +kernel, rfl, by decide +kernel, by decide +kernel⟩
theorem ok_marks_of (T : Tx g cA)  : CalG g.P w g base false 2 "marks_of" s_marks_of ["signs"] (F_marks_of fe) :=
  CalG.of (N := N_marks_of) (k := 1) T.d_marks_of sc_marks_of fun f cdv A outer s H E C =>
  (sSeq_ok (sRet_ok (eMeth_ok C .join eStr_ok (wsCons_ok (up_ok (eComp_ok (fComp_ok [("sign", 1)] C (iSeqW_ok C (wVar_ok (pe_var (i := 0) rfl (by first | exact Or.inl rfl | exact Or.inr (Or.inl rfl) | exact Or.inr (Or.inr rfl))))) (blkOk_by (own := [("sign", 1)]) (N := N_marks_of) (sc := defScope s_marks_of) (by decide +kernel)) (fun _ _ _ _ _ C' => (gName_ok (pg_name (i := 1) C'.nd rfl (by first | exact Or.inl rfl | exact Or.inr rfl)))) (fun _ _ _ _ _ C' => cYes_ok) (fun _ _ _ _ _ C' => (eIdx_ok C' (up_ok (eGlS_ok C' T.c_MARKS)) (eBin_ok C' .add (wVar_ok (pe_var (i := 1) rfl (by first | exact Or.inl rfl | exact Or.inr (Or.inl rfl) | exact Or.inr (Or.inr rfl)))) (up_ok eInt_ok))))))) (wsNil_ok))))
  sNil_ok)
theorem sc_is_whole : FnScope N_is_whole ["value"] (defScope s_is_whole) := ⟨rfl, rfl, rfl, by decide +kernel, rfl, by decide +kernel, by decide +kernel⟩
theorem ok_is_whole (T : Tx g cA)  : CalG g.P w g base false 2 "is_whole" s_is_whole ["value"] (F_is_whole fe) :=
  CalG.of (N := N_is_whole) (k := 1) T.d_is_whole sc_is_whole fun f cdv A outer s H E C =>
  (sSeq_ok (sRet_ok (eAnd_ok (isiB_ok C T.co .int T.n_isinstance T.n_int (wVar_ok (pe_var (i := 0) rfl (by first | exact Or.inl rfl | exact Or.inr (Or.inl rfl) | exact Or.inr (Or.inr rfl)))) (fun _ z => nomatch z) rfl (by decide)) (eAnd_ok (eNot_ok (isiB_ok C T.co .bool T.n_isinstance T.n_bool (wVar_ok (pe_var (i := 0) rfl (by first | exact Or.inl rfl | exact Or.inr (Or.inl rfl) | exact Or.inr (Or.inr rfl)))) (fun _ z => nomatch z) rfl (by decide))) (eOne_ok (eChain_ok C .lt .lt (up_ok (eNeg_ok (eBin_ok C .pow (up_ok eInt_ok) (up_ok eInt_ok)))) (wVar_ok (pe_var (i := 0) rfl (by first | exact Or.inl rfl | exact Or.inr (Or.inl rfl) | exact Or.inr (Or.inr rfl)))) (up_ok (eBin_ok C .pow (up_ok eInt_ok) (up_ok eInt_ok))))))))
  sNil_ok)
theorem sc_is_number : FnScope N_is_number ["value", "least", "most"] (defScope s_is_number) := ⟨rfl, rfl, rfl, by decide +kernel, rfl, by decide +kernel, by decide +kernel⟩
theorem ok_is_number (T : Tx g cA) (c_is_whole : CalG g.P w g base false 2 "is_whole" s_is_whole ["value"] (F_is_whole fe)) : CalG g.P w g base false 3 "is_number" s_is_number ["value", "least", "most"] (F_is_number fe) :=
  CalG.of (N := N_is_number) (k := 2) T.d_is_number sc_is_number fun f cdv A outer s H E C =>
  (sSeq_ok (sRet_ok (eAnd_ok (eCall_ok C c_is_whole (by decide) (fun z => nomatch z) rfl (esCons_ok (eVar_ok (pe_var (i := 0) rfl (by first | exact Or.inl rfl | exact Or.inr (Or.inl rfl) | exact Or.inr (Or.inr rfl)))) (esNil_ok)) 1) (eOne_ok (eChain_ok C .le .le (wVar_ok (pe_var (i := 1) rfl (by first | exact Or.inl rfl | exact Or.inr (Or.inl rfl) | exact Or.inr (Or.inr rfl)))) (wVar_ok (pe_var (i := 0) rfl (by first | exact Or.inl rfl | exact Or.inr (Or.inl rfl) | exact Or.inr (Or.inr rfl)))) (wVar_ok (pe_var (i := 2) rfl (by first | exact Or.inl rfl | exact Or.inr (Or.inl rfl) | exact Or.inr (Or.inr rfl))))))))
  sNil_ok)
theorem sc_are_signs : FnScope N_are_signs ["value", "many"] (defScope s_are_signs) := ⟨rfl, rfl, rfl, by decide +kernel, rfl, by decide +kernel, by decide +kernel⟩
theorem ok_are_signs (T : Tx g cA) (c_is_number : CalG g.P w g base false 3 "is_number" s_is_number ["value", "least", "most"] (F_is_number fe)) : CalG g.P w g base false 4 "are_signs" s_are_signs ["value", "many"] (F_are_signs fe) :=
  CalG.of (N := N_are_signs) (k := 3) T.d_are_signs sc_are_signs fun f cdv A outer s H E C =>
  (sSeq_ok (sRet_ok (eAnd_ok (isiB_ok C T.co .tuple T.n_isinstance T.n_tuple (wVar_ok (pe_var (i := 0) rfl (by first | exact Or.inl rfl | exact Or.inr (Or.inl rfl) | exact Or.inr (Or.inr rfl)))) (fun _ z => nomatch z) rfl (by decide)) (eAnd_ok (eCmp_ok C .eq (up_ok (eBlt_ok C .len (fun z => nomatch z) rfl T.n_len (wsCons_ok (wVar_ok (pe_var (i := 0) rfl (by first | exact Or.inl rfl | exact Or.inr (Or.inl rfl) | exact Or.inr (Or.inr rfl)))) (wsNil_ok)))) (wVar_ok (pe_var (i := 1) rfl (by first | exact Or.inl rfl | exact Or.inr (Or.inl rfl) | exact Or.inr (Or.inr rfl))))) (eOne_ok (eBlt_ok C .all (fun z => nomatch z) rfl T.n_all (wsCons_ok (up_ok (eComp_ok (fComp_ok [("item", 2)] C (iSeqW_ok C (wVar_ok (pe_var (i := 0) rfl (by first | exact Or.inl rfl | exact Or.inr (Or.inl rfl) | exact Or.inr (Or.inr rfl))))) (blkOk_by (own := [("item", 2)]) (N := N_are_signs) (sc := defScope s_are_signs) (by decide +kernel)) (fun _ _ _ _ _ C' => (gName_ok (pg_name (i := 2) C'.nd rfl (by first | exact Or.inl rfl | exact Or.inr rfl)))) (fun _ _ _ _ _ C' => cYes_ok) (fun _ _ _ _ _ C' => (eCall_ok C' c_is_number (by decide) (fun z => nomatch z) rfl (esCons_ok (eVar_ok (pe_var (i := 2) rfl (by first | exact Or.inl rfl | exact Or.inr (Or.inl rfl) | exact Or.inr (Or.inr rfl)))) (esCons_ok (eNeg_ok eInt_ok) (esCons_ok eInt_ok (esNil_ok)))) 3))))) (wsNil_ok)))))))
  sNil_ok)
theorem sc_is_row : FnScope N_is_row ["value"] (defScope s_is_row) := ⟨rfl, rfl, rfl, by decide +kernel, rfl, by decide +kernel, by decide +kernel⟩
theorem ok_is_row (T : Tx g cA) (c_are_signs : CalG g.P w g base false 4 "are_signs" s_are_signs ["value", "many"] (F_are_signs fe)) : CalG g.P w g base false 5 "is_row" s_is_row ["value"] (F_is_row fe) :=
  CalG.of (N := N_is_row) (k := 4) T.d_is_row sc_is_row fun f cdv A outer s H E C =>
  (sSeq_ok (sRet_ok (eAnd_ok (isiB_ok C T.co .tuple T.n_isinstance T.n_tuple (wVar_ok (pe_var (i := 0) rfl (by first | exact Or.inl rfl | exact Or.inr (Or.inl rfl) | exact Or.inr (Or.inr rfl)))) (fun _ z => nomatch z) rfl (by decide)) (eAnd_ok (eCmp_ok C .le (up_ok (eBlt_ok C .len (fun z => nomatch z) rfl T.n_len (wsCons_ok (wVar_ok (pe_var (i := 0) rfl (by first | exact Or.inl rfl | exact Or.inr (Or.inl rfl) | exact Or.inr (Or.inr rfl)))) (wsNil_ok)))) (up_ok (eGlI_ok C T.c_MOST_ELEMENTS))) (eOne_ok (eCall_ok C c_are_signs (by decide) (fun z => nomatch z) rfl (esCons_ok (eVar_ok (pe_var (i := 0) rfl (by first | exact Or.inl rfl | exact Or.inr (Or.inl rfl) | exact Or.inr (Or.inr rfl)))) (esCons_ok (eBlt_ok C .len (fun z => nomatch z) rfl T.n_len (wsCons_ok (wVar_ok (pe_var (i := 0) rfl (by first | exact Or.inl rfl | exact Or.inr (Or.inl rfl) | exact Or.inr (Or.inr rfl)))) (wsNil_ok))) (esNil_ok))) 2)))))
  sNil_ok)
theorem sc_need_row : FnScope N_need_row ["row"] (defScope s_need_row) := ⟨rfl, rfl, rfl, by decide +kernel, rfl, by decide +kernel, by decide +kernel⟩
theorem ok_need_row (T : Tx g cA) (c_is_row : CalG g.P w g base false 5 "is_row" s_is_row ["value"] (F_is_row fe)) : CalG g.P w g base false 6 "need_row" s_need_row ["row"] (F_need_row fe) :=
  CalG.of (N := N_need_row) (k := 5) T.d_need_row sc_need_row fun f cdv A outer s H E C =>
  (sSeq_ok (sIf_ok (tNot_ok (tVal_ok (eCall_ok C c_is_row (by decide) (fun z => nomatch z) rfl (esCons_ok (eVar_ok (pe_var (i := 0) rfl (by first | exact Or.inl rfl | exact Or.inr (Or.inl rfl) | exact Or.inr (Or.inr rfl)))) (esNil_ok)) 1)))
    (sSeq_ok (sRaise_ok C T.mk_BadRow (by decide) rfl rfl (esCons_ok eStr_ok (esNil_ok)))
    sNil_ok)
    sNil_ok)
  sNil_ok)
theorem sc_row_text : FnScope N_row_text ["row"] (defScope s_row_text) := ⟨rfl, rfl, rfl, by decide +kernel, rfl, by decide +kernel, by decide +kernel⟩
theorem ok_row_text (T : Tx g cA) (c_marks_of : CalG g.P w g base false 2 "marks_of" s_marks_of ["signs"] (F_marks_of fe)) (c_need_row : CalG g.P w g base false 6 "need_row" s_need_row ["row"] (F_need_row fe)) : CalG g.P w g base false 7 "row_text" s_row_text ["row"] (F_row_text fe) :=
  CalG.of (N := N_row_text) (k := 6) T.d_row_text sc_row_text fun f cdv A outer s H E C =>
  (sSeq_ok (sExpr_ok (eCall_ok C c_need_row (by decide) (fun z => nomatch z) rfl (esCons_ok (eVar_ok (pe_var (i := 0) rfl (by first | exact Or.inl rfl | exact Or.inr (Or.inl rfl) | exact Or.inr (Or.inr rfl)))) (esNil_ok)) 1))
  (sSeq_ok (sRet_ok (eIfe_ok (tCmp_ok C .ne (wVar_ok (pe_var (i := 0) rfl (by first | exact Or.inl rfl | exact Or.inr (Or.inl rfl) | exact Or.inr (Or.inr rfl)))) (up_ok (eTup_ok (esNil_ok)))) (eBin_ok C .add (up_ok eStr_ok) (up_ok (eCall_ok C c_marks_of (by decide) (fun z => nomatch z) rfl (esCons_ok (eVar_ok (pe_var (i := 0) rfl (by first | exact Or.inl rfl | exact Or.inr (Or.inl rfl) | exact Or.inr (Or.inr rfl)))) (esNil_ok)) 1))) eStr_ok))
  sNil_ok))
theorem sc__law_k89_due : FnScope N__law_k89_due ["lines"] (defScope s__law_k89_due) := ⟨rfl, rfl, rfl, by decide +kernel, rfl, by decide +kernel, by decide +kernel⟩
theorem ok__law_k89_due (T : Tx g cA)  : CalG g.P w g base false 2 "_law_k89_due" s__law_k89_due ["lines"] (F__law_k89_due fe) :=
  CalG.of (N := N__law_k89_due) (k := 1) T.d__law_k89_due sc__law_k89_due fun f cdv A outer s H E C =>
  (sSeq_ok (sSet_ok C rfl (by first | exact Or.inl rfl | exact Or.inr rfl) (Or.inl rfl) (eIfe_ok (tCmp_ok C .eq (up_ok (eSli_ok C (up_ok (eIdx_ok C (wVar_ok (pe_var (i := 0) rfl (by first | exact Or.inl rfl | exact Or.inr (Or.inl rfl) | exact Or.inr (Or.inr rfl)))) eInt_ok)) oNone_ok (oSome_ok eInt_ok))) (up_ok eStr_ok)) (eSli_ok C (up_ok (eIdx_ok C (wVar_ok (pe_var (i := 0) rfl (by first | exact Or.inl rfl | exact Or.inr (Or.inl rfl) | exact Or.inr (Or.inr rfl)))) eInt_ok)) (oSome_ok eInt_ok) oNone_ok) eStr_ok))
  (sSeq_ok (sIf_ok (PW.pt (wAnd_ok (tCmp_ok C .ne (up_ok (eIdx_ok C (wVar_ok (pe_var (i := 0) rfl (by first | exact Or.inl rfl | exact Or.inr (Or.inl rfl) | exact Or.inr (Or.inr rfl)))) eInt_ok)) (up_ok eStr_ok)) (pw_and1 (PW.pt (wOr_ok (tCmp_ok C .eq (wVar_ok (pe_var (i := 1) rfl (by first | exact Or.inl rfl | exact Or.inr (Or.inl rfl) | exact Or.inr (Or.inr rfl)))) (up_ok eStr_ok)) (wOr_ok (tCmp_ok C .gt (up_ok (eBlt_ok C .len (fun z => nomatch z) rfl T.n_len (wsCons_ok (wVar_ok (pe_var (i := 1) rfl (by first | exact Or.inl rfl | exact Or.inr (Or.inl rfl) | exact Or.inr (Or.inr rfl)))) (wsNil_ok)))) (up_ok eInt_ok)) (pw_or1 (tCmp_ok C .ne (up_ok (eComp_ok (fComp_ok [("mark", 2)] C (iSeqW_ok C (wVar_ok (pe_var (i := 1) rfl (by first | exact Or.inl rfl | exact Or.inr (Or.inl rfl) | exact Or.inr (Or.inr rfl))))) (blkOk_by (own := [("mark", 2)]) (N := N__law_k89_due) (sc := defScope s__law_k89_due) (by decide +kernel)) (fun _ _ _ _ _ C' => (gName_ok (pg_name (i := 2) C'.nd rfl (by first | exact Or.inl rfl | exact Or.inr rfl)))) (fun _ _ _ _ _ C' => cOne_ok (tCmp_ok C' .notin (wVar_ok (pe_var (i := 2) rfl (by first | exact Or.inl rfl | exact Or.inr (Or.inl rfl) | exact Or.inr (Or.inr rfl)))) (up_ok eStr_ok))) (fun _ _ _ _ _ C' => eInt_ok)))) (up_ok (eLst_ok (esNil_ok)))))))))))
    (sSeq_ok (sRet_ok (eTup_ok (esCons_ok eInt_ok (esCons_ok eNon_ok (esNil_ok)))))
    sNil_ok)
    sNil_ok)
  (sSeq_ok (sRet_ok (eIfe_ok (tCmp_ok C .gt (up_ok (eBlt_ok C .len (fun z => nomatch z) rfl T.n_len (wsCons_ok (wVar_ok (pe_var (i := 0) rfl (by first | exact Or.inl rfl | exact Or.inr (Or.inl rfl) | exact Or.inr (Or.inr rfl)))) (wsNil_ok)))) (up_ok eInt_ok)) (eTup_ok (esCons_ok eInt_ok (esCons_ok eNon_ok (esNil_ok)))) (eTup_ok (esCons_ok (eNeg_ok eInt_ok) (esCons_ok (eBlt_ok C .tuple (fun z => nomatch z) rfl T.n_tuple (wsCons_ok (up_ok (eComp_ok (fComp_ok [("mark", 2)] C (iSeqW_ok C (wVar_ok (pe_var (i := 1) rfl (by first | exact Or.inl rfl | exact Or.inr (Or.inl rfl) | exact Or.inr (Or.inr rfl))))) (blkOk_by (own := [("mark", 2)]) (N := N__law_k89_due) (sc := defScope s__law_k89_due) (by decide +kernel)) (fun _ _ _ _ _ C' => (gName_ok (pg_name (i := 2) C'.nd rfl (by first | exact Or.inl rfl | exact Or.inr rfl)))) (fun _ _ _ _ _ C' => cYes_ok) (fun _ _ _ _ _ C' => (eBin_ok C' .sub (up_ok (eMeth_ok C' .sindex eStr_ok (wsCons_ok (wVar_ok (pe_var (i := 2) rfl (by first | exact Or.inl rfl | exact Or.inr (Or.inl rfl) | exact Or.inr (Or.inr rfl)))) (wsNil_ok)))) (up_ok eInt_ok)))))) (wsNil_ok))) (esNil_ok))))))
  sNil_ok)))
theorem sc__law_lv_marks : FnScope N__law_lv_marks ["signs"] (defScope s__law_lv_marks) := ⟨rfl, rfl, rfl, by decide +kernel, rfl, by decide +kernel, by decide +kernel⟩
theorem ok__law_lv_marks (T : Tx g cA)  : CalG g.P w g base false 2 "_law_lv_marks" s__law_lv_marks ["signs"] (F__law_lv_marks fe) :=
  CalG.of (N := N__law_lv_marks) (k := 1) T.d__law_lv_marks sc__law_lv_marks fun f cdv A outer s H E C =>
  (sSeq_ok (sRet_ok (eMeth_ok C .join eStr_ok (wsCons_ok (up_ok (eComp_ok (fComp_ok [("sign", 1)] C (iSeqW_ok C (wVar_ok (pe_var (i := 0) rfl (by first | exact Or.inl rfl | exact Or.inr (Or.inl rfl) | exact Or.inr (Or.inr rfl))))) (blkOk_by (own := [("sign", 1)]) (N := N__law_lv_marks) (sc := defScope s__law_lv_marks) (by decide +kernel)) (fun _ _ _ _ _ C' => (gName_ok (pg_name (i := 1) C'.nd rfl (by first | exact Or.inl rfl | exact Or.inr rfl)))) (fun _ _ _ _ _ C' => cYes_ok) (fun _ _ _ _ _ C' => (eIdx_ok C' (up_ok eStr_ok) (eBin_ok C' .add (wVar_ok (pe_var (i := 1) rfl (by first | exact Or.inl rfl | exact Or.inr (Or.inl rfl) | exact Or.inr (Or.inr rfl)))) (up_ok eInt_ok))))))) (wsNil_ok))))
  sNil_ok)
theorem sc__law_tg_row : FnScope N__law_tg_row ["state", "size"] (defScope s__law_tg_row) := ⟨rfl, rfl, rfl, by decide +kernel, rfl, by decide +kernel, by decide +kernel⟩
theorem ok__law_tg_row (T : Tx g cA) (c__law_draw : CalG g.P w g base false 3 "_law_draw" s__law_draw ["state", "size_here"] (F__law_draw fe)) : CalG g.P w g base false 4 "_law_tg_row" s__law_tg_row ["state", "size"] (F__law_tg_row fe) :=
  CalG.of (N := N__law_tg_row) (k := 3) T.d__law_tg_row sc__law_tg_row fun f cdv A outer s H E C =>
  (sSeq_ok (sRet_ok (eBlt_ok C .tuple (fun z => nomatch z) rfl T.n_tuple (wsCons_ok (up_ok (eComp_ok (fComp_ok [("element", 2)] C (iRng1_ok C rfl T.n_range (eVar_ok (pe_var (i := 1) rfl (by first | exact Or.inl rfl | exact Or.inr (Or.inl rfl) | exact Or.inr (Or.inr rfl))))) (blkOk_by (own := [("element", 2)]) (N := N__law_tg_row) (sc := defScope s__law_tg_row) (by decide +kernel)) (fun _ _ _ _ _ C' => (gName_ok (pg_name (i := 2) C'.nd rfl (by first | exact Or.inl rfl | exact Or.inr rfl)))) (fun _ _ _ _ _ C' => cYes_ok) (fun _ _ _ _ _ C' => (eBin_ok C' .sub (up_ok (eCall_ok C' c__law_draw (by decide) (fun z => nomatch z) rfl (esCons_ok (eVar_ok (pe_var (i := 0) rfl (by first | exact Or.inl rfl | exact Or.inr (Or.inl rfl) | exact Or.inr (Or.inr rfl)))) (esCons_ok eInt_ok (esNil_ok))) 2)) (up_ok eInt_ok)))))) (wsNil_ok))))
  sNil_ok)
theorem sc__law_begun : FnScope N__law_begun ["script"] (defScope s__law_begun) := ⟨rfl, rfl, rfl, by decide +kernel, rfl, by decide +kernel, by decide +kernel⟩
theorem ok__law_begun (T : Tx g cA)  : CalG g.P w g base false 2 "_law_begun" s__law_begun ["script"] (F__law_begun fe) :=
  CalG.of (N := N__law_begun) (k := 1) T.d__law_begun sc__law_begun fun f cdv A outer s H E C =>
  (sSeq_ok (ss_set (new_asg (asgC [("cell", 2)] C rfl rfl (sw_true rfl rfl rfl (by decide +kernel)) (iSeqW_ok C (wVar_ok (pe_var (i := 0) rfl (by first | exact Or.inl rfl | exact Or.inr (Or.inl rfl) | exact Or.inr (Or.inr rfl))))) (blkOk_by (own := [("cell", 2)]) (N := N__law_begun) (sc := defScope s__law_begun) (by decide +kernel)) (fun _ _ _ _ _ C' => (gName_ok (pg_name (i := 2) C'.nd rfl (by first | exact Or.inl rfl | exact Or.inr rfl)))) (fun _ _ _ _ _ C' => cOne_ok (tCmp_ok C' .ge (up_ok (eBlt_ok C' .abs (fun z => nomatch z) rfl T.n_abs (wsCons_ok (wVar_ok (pe_var (i := 2) rfl (by first | exact Or.inl rfl | exact Or.inr (Or.inl rfl) | exact Or.inr (Or.inr rfl)))) (wsNil_ok)))) (up_ok (eBin_ok C' .pow (up_ok eInt_ok) (up_ok eInt_ok))))) (fun _ _ _ _ _ C' => (eBin_ok C' .sub (up_ok (eBlt_ok C' .abs (fun z => nomatch z) rfl T.n_abs (wsCons_ok (wVar_ok (pe_var (i := 2) rfl (by first | exact Or.inl rfl | exact Or.inr (Or.inl rfl) | exact Or.inr (Or.inr rfl)))) (wsNil_ok)))) (up_ok (eBin_ok C' .pow (up_ok eInt_ok) (up_ok eInt_ok))))))))
  (sSeq_ok (sRet_ok (eNew_ok (fDis_ok (pCons_ok (kd := .inr ("great" : PySem.Str)) pe_str (eVar_ok (pe_var (i := 1) rfl (by first | exact Or.inl rfl | exact Or.inr (Or.inl rfl) | exact Or.inr (Or.inr rfl)))) (pCons_ok (kd := .inr ("cells" : PySem.Str)) pe_str (eComp_ok (fComp_ok [("cell", 2)] C (iSeqW_ok C (wVar_ok (pe_var (i := 0) rfl (by first | exact Or.inl rfl | exact Or.inr (Or.inl rfl) | exact Or.inr (Or.inr rfl))))) (blkOk_by (own := [("cell", 2)]) (N := N__law_begun) (sc := defScope s__law_begun) (by decide +kernel)) (fun _ _ _ _ _ C' => (gName_ok (pg_name (i := 2) C'.nd rfl (by first | exact Or.inl rfl | exact Or.inr rfl)))) (fun _ _ _ _ _ C' => cYes_ok) (fun _ _ _ _ _ C' => (eBlt_ok C' .abs (fun z => nomatch z) rfl T.n_abs (wsCons_ok (wVar_ok (pe_var (i := 2) rfl (by first | exact Or.inl rfl | exact Or.inr (Or.inl rfl) | exact Or.inr (Or.inr rfl)))) (wsNil_ok)))))) (pCons_ok (kd := .inr ("left" : PySem.Str)) pe_str eInt_ok (pCons_ok (kd := .inr ("turn" : PySem.Str)) pe_str eInt_ok pNil_ok)))))))
  sNil_ok))
theorem sc_law : FnScope N_law ["script"] (defScope s_law) := ⟨rfl, rfl, rfl, by decide +kernel, rfl, by decide +kernel, by decide +kernel⟩
theorem ok_law (T : Tx g cA) (LT : LamT base g cA PA (("law" : PySem.Str) ++ ".<locals>.")) (c_row_of_text : CalG g.P w g base false 3 "row_of_text" s_row_of_text ["text"] (F_row_of_text fe)) (c__law_pick : CalG g.P w g base false 4 "_law_pick" s__law_pick ["state", "several"] (F__law_pick fe)) (c_row_text : CalG g.P w g base false 7 "row_text" s_row_text ["row"] (F_row_text fe)) (c__law_k89_due : CalG g.P w g base false 2 "_law_k89_due" s__law_k89_due ["lines"] (F__law_k89_due fe)) (c__law_draw : CalG g.P w g base false 3 "_law_draw" s__law_draw ["state", "size_here"] (F__law_draw fe)) (c__law_lv_marks : CalG g.P w g base false 2 "_law_lv_marks" s__law_lv_marks ["signs"] (F__law_lv_marks fe)) (c__law_tg_row : CalG g.P w g base false 4 "_law_tg_row" s__law_tg_row ["state", "size"] (F__law_tg_row fe)) (c__law_begun : CalG g.P w g base false 2 "_law_begun" s__law_begun ["script"] (F__law_begun fe)) : CalG g.P w g base true 10 "law" s_law ["script"] (F_law fe) :=
  CalG.ofL (N := N_law) (k := 9) T.d_law sc_law fun f A outer s H E C =>
  (sSeq_ok (sSet_ok C rfl (by first | exact Or.inl rfl | exact Or.inr rfl) (Or.inl rfl) (eCall_ok C c__law_begun (by decide) (fun z => nomatch z) rfl (esCons_ok (eVar_ok (pe_var (i := 0) rfl (by first | exact Or.inl rfl | exact Or.inr (Or.inl rfl) | exact Or.inr (Or.inr rfl)))) (esNil_ok)) 1))
  (sSeq_ok (sFor_ok C own_body (iRng1_ok C rfl T.n_range (eBin_ok C .add (up_ok eInt_ok) (up_ok (eBlt_ok C .min (fun z => nomatch z) rfl T.n_min (wsCons_ok (up_ok (eBlt_ok C .len (fun z => nomatch z) rfl T.n_len (wsCons_ok (wVar_ok (pe_var (i := 0) rfl (by first | exact Or.inl rfl | exact Or.inr (Or.inl rfl) | exact Or.inr (Or.inr rfl)))) (wsNil_ok)))) (wsCons_ok (up_ok eInt_ok) (wsNil_ok))))))) (gName_ok (pg_name (i := 2) C.nd rfl (by first | exact Or.inl rfl | exact Or.inr rfl)))
    (sSeq_ok (sSet_ok C rfl (by first | exact Or.inl rfl | exact Or.inr rfl) (Or.inl rfl) (eCall_ok C c__law_tg_row (by decide) (fun z => nomatch z) rfl (esCons_ok (eVar_ok (pe_var (i := 1) rfl (by first | exact Or.inl rfl | exact Or.inr (Or.inl rfl) | exact Or.inr (Or.inr rfl)))) (esCons_ok (eCall_ok C c__law_draw (by decide) (fun z => nomatch z) rfl (esCons_ok (eVar_ok (pe_var (i := 1) rfl (by first | exact Or.inl rfl | exact Or.inr (Or.inl rfl) | exact Or.inr (Or.inr rfl)))) (esCons_ok eInt_ok (esNil_ok))) 2) (esNil_ok))) 2))
    (sSeq_ok (sSet_ok C rfl (by first | exact Or.inl rfl | exact Or.inr rfl) (Or.inl rfl) (eIfe_ok (tCmp_ok C .ne (wVar_ok (pe_var (i := 3) rfl (by first | exact Or.inl rfl | exact Or.inr (Or.inl rfl) | exact Or.inr (Or.inr rfl)))) (up_ok (eTup_ok (esNil_ok)))) (eBin_ok C .add (up_ok eStr_ok) (up_ok (eCall_ok C c__law_lv_marks (by decide) (fun z => nomatch z) rfl (esCons_ok (eVar_ok (pe_var (i := 3) rfl (by first | exact Or.inl rfl | exact Or.inr (Or.inl rfl) | exact Or.inr (Or.inr rfl)))) (esNil_ok)) 1))) eStr_ok))
    (sSeq_ok (sIf_ok (PW.pt (wOr_ok (tCmp_ok C .ne (up_ok (eCall_ok C c_row_text (by decide) (fun z => nomatch z) rfl (esCons_ok (eVar_ok (pe_var (i := 3) rfl (by first | exact Or.inl rfl | exact Or.inr (Or.inl rfl) | exact Or.inr (Or.inr rfl)))) (esNil_ok)) 1)) (wVar_ok (pe_var (i := 4) rfl (by first | exact Or.inl rfl | exact Or.inr (Or.inl rfl) | exact Or.inr (Or.inr rfl))))) (wOr_ok (tCmp_ok C .ne (up_ok (eCallK0_ok C c_row_text (by decide) (fun z => nomatch z) rfl (ks := ["row"]) [0] (kwCons_ok (eVar_ok (pe_var (i := 3) rfl (by first | exact Or.inl rfl | exact Or.inr (Or.inl rfl) | exact Or.inr (Or.inr rfl)))) kwNil_ok) 1 1 (fun _ _ _ _ _ _ us ws zs l1 l2 l3 => match us, ws, l1, l2, l3 with | [], [_], _, _, l3 => by cases l3; rfl))) (wVar_ok (pe_var (i := 4) rfl (by first | exact Or.inl rfl | exact Or.inr (Or.inl rfl) | exact Or.inr (Or.inr rfl))))) (pw_or1 (tCmp_ok C .ne (up_ok (eBlt_ok C .repr (fun _ => rfl) rfl T.n_repr (wsCons_ok (up_ok (eLst_ok (esCons_ok (eCall_ok C c_row_of_text (by decide) (fun z => nomatch z) rfl (esCons_ok (eVar_ok (pe_var (i := 4) rfl (by first | exact Or.inl rfl | exact Or.inr (Or.inl rfl) | exact Or.inr (Or.inr rfl)))) (esNil_ok)) 1) (esCons_ok (eCallK0_ok C c_row_of_text (by decide) (fun z => nomatch z) rfl (ks := ["text"]) [0] (kwCons_ok (eVar_ok (pe_var (i := 4) rfl (by first | exact Or.inl rfl | exact Or.inr (Or.inl rfl) | exact Or.inr (Or.inr rfl)))) kwNil_ok) 1 1 (fun _ _ _ _ _ _ us ws zs l1 l2 l3 => match us, ws, l1, l2, l3 with | [], [_], _, _, l3 => by cases l3; rfl)) (esNil_ok))))) (wsNil_ok)))) (up_ok (eBlt_ok C .repr (fun _ => rfl) rfl T.n_repr (wsCons_ok (up_ok (eLst_ok (esCons_ok (eVar_ok (pe_var (i := 3) rfl (by first | exact Or.inl rfl | exact Or.inr (Or.inl rfl) | exact Or.inr (Or.inr rfl)))) (esCons_ok (eVar_ok (pe_var (i := 3) rfl (by first | exact Or.inl rfl | exact Or.inr (Or.inl rfl) | exact Or.inr (Or.inr rfl)))) (esNil_ok))))) (wsNil_ok)))))))))
      (sSeq_ok (sRet_ok eBl_ok)
      sNil_ok)
      sNil_ok)
    (sSeq_ok (sFor_ok C own_body (iRng1_ok C rfl T.n_range eInt_ok) (gName_ok (pg_name (i := 5) C.nd rfl (by first | exact Or.inl rfl | exact Or.inr rfl)))
      (sSeq_ok (sSet_ok C rfl (by first | exact Or.inl rfl | exact Or.inr rfl) (Or.inl rfl) (eCall_ok C c__law_draw (by decide) (fun z => nomatch z) rfl (esCons_ok (eVar_ok (pe_var (i := 1) rfl (by first | exact Or.inl rfl | exact Or.inr (Or.inl rfl) | exact Or.inr (Or.inr rfl)))) (esCons_ok (eBin_ok C .add (up_ok (eBlt_ok C .len (fun z => nomatch z) rfl T.n_len (wsCons_ok (wVar_ok (pe_var (i := 4) rfl (by first | exact Or.inl rfl | exact Or.inr (Or.inl rfl) | exact Or.inr (Or.inr rfl)))) (wsNil_ok)))) (up_ok eInt_ok)) (esNil_ok))) 2))
      (sSeq_ok (sSet_ok C rfl (by first | exact Or.inl rfl | exact Or.inr rfl) (Or.inl rfl) (eCall_ok C c__law_pick (by decide) (fun z => nomatch z) rfl (esCons_ok (eVar_ok (pe_var (i := 1) rfl (by first | exact Or.inl rfl | exact Or.inr (Or.inl rfl) | exact Or.inr (Or.inr rfl)))) (esCons_ok (eLst_ok (esCons_ok eStr_ok (esCons_ok eStr_ok (esCons_ok eStr_ok (esCons_ok eStr_ok (esCons_ok eStr_ok (esCons_ok eStr_ok (esCons_ok eStr_ok (esCons_ok eStr_ok (esCons_ok eStr_ok (esCons_ok eStr_ok (esNil_ok)))))))))))) (esNil_ok))) 2))
      (sSeq_ok (sAsg_ok C (eTup_ok (esCons_ok (eBin_ok C .add (up_ok (eBin_ok C .add (up_ok (eSli_ok C (wVar_ok (pe_var (i := 4) rfl (by first | exact Or.inl rfl | exact Or.inr (Or.inl rfl) | exact Or.inr (Or.inr rfl)))) oNone_ok (oSome_ok (eVar_ok (pe_var (i := 7) rfl (by first | exact Or.inl rfl | exact Or.inr (Or.inl rfl) | exact Or.inr (Or.inr rfl))))))) (wVar_ok (pe_var (i := 8) rfl (by first | exact Or.inl rfl | exact Or.inr (Or.inl rfl) | exact Or.inr (Or.inr rfl)))))) (up_ok (eSli_ok C (wVar_ok (pe_var (i := 4) rfl (by first | exact Or.inl rfl | exact Or.inr (Or.inl rfl) | exact Or.inr (Or.inr rfl)))) (oSome_ok (eBin_ok C .add (wVar_ok (pe_var (i := 7) rfl (by first | exact Or.inl rfl | exact Or.inr (Or.inl rfl) | exact Or.inr (Or.inr rfl)))) (up_ok (eCall_ok C c__law_draw (by decide) (fun z => nomatch z) rfl (esCons_ok (eVar_ok (pe_var (i := 1) rfl (by first | exact Or.inl rfl | exact Or.inr (Or.inl rfl) | exact Or.inr (Or.inr rfl)))) (esCons_ok eInt_ok (esNil_ok))) 2)))) oNone_ok))) (esCons_ok (eNew_ok (fLst_ok (esNil_ok))) (esNil_ok)))) (gTup_ok C (gsCons_ok (gName_ok (pg_name (i := 9) C.nd rfl (by first | exact Or.inl rfl | exact Or.inr rfl))) (gsCons_ok (gName_ok (pg_name (i := 10) C.nd rfl (by first | exact Or.inl rfl | exact Or.inr rfl))) gsNil_ok))))
      (sSeq_ok (sAsg_ok C (eCall_ok C c__law_k89_due (by decide) (fun z => nomatch z) rfl (esCons_ok (eMeth_ok C .split (eVar_ok (pe_var (i := 9) rfl (by first | exact Or.inl rfl | exact Or.inr (Or.inl rfl) | exact Or.inr (Or.inr rfl)))) (wsCons_ok (up_ok eStr_ok) (wsNil_ok))) (esNil_ok)) 1) (gTup_ok C (gsCons_ok (gName_ok (pg_name (i := 11) C.nd rfl (by first | exact Or.inl rfl | exact Or.inr rfl))) (gsCons_ok (gName_ok (pg_name (i := 12) C.nd rfl (by first | exact Or.inl rfl | exact Or.inr rfl))) gsNil_ok))))
      (sSeq_ok (sSet_ok C rfl (by first | exact Or.inl rfl | exact Or.inr rfl) (Or.inl rfl) (caught_ok (k := 7) C T.caught LT rfl gv_caught sc__law_caught (Or.inl rfl) (LamX.lamS_by (sc := defScope s_law) (by decide +kernel)) (fun _ _ _ _ _ _ _ Cl => (eApp_ok (eVar_ok (pe_var (i := 10) rfl (by first | exact Or.inl rfl | exact Or.inr (Or.inl rfl) | exact Or.inr (Or.inr rfl)))) (eCall_ok Cl c_row_of_text (by decide) (fun z => nomatch z) rfl (esCons_ok (eVar_ok (pe_var (i := 9) rfl (by first | exact Or.inl rfl | exact Or.inr (Or.inl rfl) | exact Or.inr (Or.inr rfl)))) (esNil_ok)) 1)))))
      (sSeq_ok (sIf_ok (PW.pt (wAnd_ok (tCmp_ok C .eq (wVar_ok (pe_var (i := 11) rfl (by first | exact Or.inl rfl | exact Or.inr (Or.inl rfl) | exact Or.inr (Or.inr rfl)))) (up_ok (eNeg_ok eInt_ok))) (pw_and1 (PW.pt (wOr_ok (tCmp_ok C .isnot (wVar_ok (pe_var (i := 6) rfl (by first | exact Or.inl rfl | exact Or.inr (Or.inl rfl) | exact Or.inr (Or.inr rfl)))) (up_ok eNon_ok)) (wOr_ok (tCmp_ok C .ne (up_ok (eBlt_ok C .repr (fun _ => rfl) rfl T.n_repr (wsCons_ok (up_ok (eIdx_ok C (wVar_ok (pe_var (i := 10) rfl (by first | exact Or.inl rfl | exact Or.inr (Or.inl rfl) | exact Or.inr (Or.inr rfl)))) eInt_ok)) (wsNil_ok)))) (up_ok (eBlt_ok C .repr (fun _ => rfl) rfl T.n_repr (wsCons_ok (wVar_ok (pe_var (i := 12) rfl (by first | exact Or.inl rfl | exact Or.inr (Or.inl rfl) | exact Or.inr (Or.inr rfl)))) (wsNil_ok))))) (pw_or1 (tCmp_ok C .ne (up_ok (eCall_ok C c_row_text (by decide) (fun z => nomatch z) rfl (esCons_ok (eIdx_ok C (wVar_ok (pe_var (i := 10) rfl (by first | exact Or.inl rfl | exact Or.inr (Or.inl rfl) | exact Or.inr (Or.inr rfl)))) eInt_ok) (esNil_ok)) 1)) (wVar_ok (pe_var (i := 9) rfl (by first | exact Or.inl rfl | exact Or.inr (Or.inl rfl) | exact Or.inr (Or.inr rfl))))))))))))
        (sSeq_ok (sRet_ok eBl_ok)
        sNil_ok)
        sNil_ok)
      (sSeq_ok (sIf_ok (PW.pt (wAnd_ok (tCmp_ok C .ne (wVar_ok (pe_var (i := 11) rfl (by first | exact Or.inl rfl | exact Or.inr (Or.inl rfl) | exact Or.inr (Or.inr rfl)))) (up_ok (eNeg_ok eInt_ok))) (pw_and1 (PW.pt (wOr_ok (tNot_ok (tVal_ok (isiC_ok C T.co T.n_isinstance T.k_BadText (wVar_ok (pe_var (i := 6) rfl (by first | exact Or.inl rfl | exact Or.inr (Or.inl rfl) | exact Or.inr (Or.inr rfl)))) (by decide)))) (pw_or1 (tCmp_ok C .ne (up_ok (eBlt_ok C .repr (fun _ => rfl) rfl T.n_repr (wsCons_ok (up_ok (eFld_ok C T.co (eVar_ok (pe_var (i := 6) rfl (by first | exact Or.inl rfl | exact Or.inr (Or.inl rfl) | exact Or.inr (Or.inr rfl)))))) (wsNil_ok)))) (up_ok (eBlt_ok C .repr (fun _ => rfl) rfl T.n_repr (wsCons_ok (wVar_ok (pe_var (i := 11) rfl (by first | exact Or.inl rfl | exact Or.inr (Or.inl rfl) | exact Or.inr (Or.inr rfl)))) (wsNil_ok)))))))))))
        (sSeq_ok (sRet_ok eBl_ok)
        sNil_ok)
        sNil_ok)
      sNil_ok))))))))
    (sSeq_ok (sIf_ok (tNot_ok (tVal_ok (isiC_ok C T.co T.n_isinstance T.k_BadRow (up_ok (caught_ok (k := 7) C T.caught LT rfl gv_caught sc__law_caught (Or.inl rfl) (LamX.lamS_by (sc := defScope s_law) (by decide +kernel)) (fun _ _ _ _ _ _ _ Cl => (eCall_ok Cl c_row_text (by decide) (fun z => nomatch z) rfl (esCons_ok (eCall_ok Cl c__law_pick (by decide) (fun z => nomatch z) rfl (esCons_ok (eVar_ok (pe_var (i := 1) rfl (by first | exact Or.inl rfl | exact Or.inr (Or.inl rfl) | exact Or.inr (Or.inr rfl)))) (esCons_ok (eLst_ok (esCons_ok eNon_ok (esCons_ok (eLst_ok (esCons_ok eInt_ok (esNil_ok))) (esCons_ok (eTup_ok (esCons_ok eInt_ok (esNil_ok))) (esCons_ok (eTup_ok (esCons_ok eBl_ok (esNil_ok))) (esCons_ok (eBin_ok Cl .mul (up_ok (eTup_ok (esCons_ok eInt_ok (esNil_ok)))) (up_ok eInt_ok)) (esCons_ok eStr_ok (esCons_ok (eTup_ok (esCons_ok eInt_ok (esCons_ok eNon_ok (esNil_ok)))) (esNil_ok))))))))) (esNil_ok))) 2) (esNil_ok)) 1)))) (by decide))))
      (sSeq_ok (sRet_ok eBl_ok)
      sNil_ok)
      sNil_ok)
    (sSeq_ok (sSet_ok C rfl (by first | exact Or.inl rfl | exact Or.inr rfl) (Or.inl rfl) (caught_ok (k := 7) C T.caught LT rfl gv_caught sc__law_caught (Or.inl rfl) (LamX.lamS_by (sc := defScope s_law) (by decide +kernel)) (fun _ _ _ _ _ _ _ Cl => (eCall_ok Cl c_row_of_text (by decide) (fun z => nomatch z) rfl (esCons_ok (eCall_ok Cl c__law_pick (by decide) (fun z => nomatch z) rfl (esCons_ok (eVar_ok (pe_var (i := 1) rfl (by first | exact Or.inl rfl | exact Or.inr (Or.inl rfl) | exact Or.inr (Or.inr rfl)))) (esCons_ok (eLst_ok (esCons_ok eNon_ok (esCons_ok eInt_ok (esCons_ok (eTup_ok (esNil_ok)) (esCons_ok (eVar_ok (pe_var (i := 3) rfl (by first | exact Or.inl rfl | exact Or.inr (Or.inl rfl) | exact Or.inr (Or.inr rfl)))) (esCons_ok eBl_ok (esNil_ok))))))) (esNil_ok))) 2) (esNil_ok)) 1))))
    (sSeq_ok (sIf_ok (PW.pt (wOr_ok (tNot_ok (tVal_ok (isiC_ok C T.co T.n_isinstance T.k_BadText (wVar_ok (pe_var (i := 6) rfl (by first | exact Or.inl rfl | exact Or.inr (Or.inl rfl) | exact Or.inr (Or.inr rfl)))) (by decide)))) (pw_or1 (tCmp_ok C .ne (up_ok (eBlt_ok C .repr (fun _ => rfl) rfl T.n_repr (wsCons_ok (up_ok (eFld_ok C T.co (eVar_ok (pe_var (i := 6) rfl (by first | exact Or.inl rfl | exact Or.inr (Or.inl rfl) | exact Or.inr (Or.inr rfl)))))) (wsNil_ok)))) (up_ok eStr_ok)))))
      (sSeq_ok (sRet_ok eBl_ok)
      sNil_ok)
      sNil_ok)
    sNil_ok))))))))
  (sSeq_ok (sRet_ok eBl_ok)
  sNil_ok)))
end K89
end
section
set_option Elab.async false
set_option linter.all false
/-! Ev: the parts as they are run, for simp. -/
namespace Ev
open PySem L2
section
variable (a b c e f i l h : Ex) (fs fk : Exs) (env : Env) (m : Mem) (s s1 s2 : Ss)
@[simp] theorem bnd_at {α β : Type} (x : M α) (k : α → M β) : bnd x k m = (x m).bind k := rfl
@[simp] theorem lift_some {α : Type} (x : α) : lift (some x) m = .ok x m := rfl
@[simp] theorem lift_none {α : Type} : lift (none : Option α) m = .bad := rfl
@[simp] theorem guardM_true {α : Type} (x : M α) : guardM true x m = x m := rfl
@[simp] theorem guardM_false {α : Type} (x : M α) : guardM false x m = .bad := rfl
@[simp] theorem eVar_at (n : Nat) : eVar n env m = (match env[n]? with | some (.val d) => .ok d m | _ => .bad) := by
  show rd env n m = _
  unfold rd
  cases env[n]? with
  | none => rfl
  | some x => cases x <;> rfl
@[simp] theorem wVar_at (n : Nat) : wVar n env m = (match env[n]? with | some (.val d) => .ok d m | some (.own d) => .ok d m | _ => .bad) := by
  unfold wVar rd
  cases env[n]? with
  | none => rfl
  | some x => cases x <;> rfl
@[simp] theorem eCon_at (d : D) : eCon d env m = .ok d m := rfl
@[simp] theorem eBin_at (o : BinK) : eBin o a b env m = (a env m).bind fun x m => (b env m).bind fun y m => d2 x y (binD o) m := rfl
@[simp] theorem eCmp_at (o : CmpK) : eCmp o a b env m = (a env m).bind fun x m => (b env m).bind fun y m => d2 x y (fun x y => (cmpD o x y).map .bl) m := rfl
@[simp] theorem eChain_at (o o' : CmpK) : eChain o o' a b c env m = (a env m).bind fun x m => (b env m).bind fun y m => (d2 x y (cmpD o) m).bind fun k m => if k = true then (c env m).bind fun z m => d2 y z (fun y z => (cmpD o' y z).map .bl) m else .ok (.bl false) m := by
  unfold eChain
  dsimp only [bnd]
  congr 1; funext x m; congr 1; funext y m; congr 1; funext k m
  split <;> rfl
@[simp] theorem eNeg_at : eNeg a env m = (a env m).bind fun x m => match x with | .int i => .ok (.int (-i)) m | _ => .bad := by
  unfold eNeg
  dsimp only [bnd]
  congr 1; funext x m; cases x <;> rfl
@[simp] theorem eNot_at : eNot a env m = (a env m).bind fun x m => match x with | .bl b => .ok (.bl (!b)) m | _ => .bad := by
  unfold eNot
  dsimp only [bnd]
  congr 1; funext x m; cases x <;> rfl
@[simp] theorem eAnd_at : eAnd a b env m = (a env m).bind fun x m => match x with | .bl true => b env m | .bl false => .ok (.bl false) m | _ => .bad := by
  unfold eAnd
  dsimp only [bnd]
  congr 1; funext x m
  cases x with
  | bl k => cases k <;> rfl
  | _ => rfl
@[simp] theorem eOr_at : eOr a b env m = (a env m).bind fun x m => match x with | .bl false => b env m | .bl true => .ok (.bl true) m | _ => .bad := by
  unfold eOr
  dsimp only [bnd]
  congr 1; funext x m
  cases x with
  | bl k => cases k <;> rfl
  | _ => rfl
@[simp] theorem eIfe_at : eIfe c a b env m = (c env m).bind fun x m => match x with | .bl true => a env m | .bl false => b env m | _ => .bad := by
  unfold eIfe
  dsimp only [bnd]
  congr 1; funext x m
  cases x with
  | bl k => cases k <;> rfl
  | _ => rfl
@[simp] theorem esNil_at : esNil env m = .ok [] m := rfl
@[simp] theorem esCons_at : esCons f fs env m = (f env m).bind fun x m => (fs env m).bind fun xs m => .ok (x :: xs) m := rfl
@[simp] theorem eTup_at : eTup fs env m = (fs env m).bind fun xs m => guardM (decide (xs.length ≤ line)) (ret (.tup xs)) m := rfl
@[simp] theorem eLst_at : eLst fs env m = (fs env m).bind fun xs m => guardM (decide (xs.length ≤ line)) (ret (.lst xs)) m := rfl
@[simp] theorem eIdx_at : eIdx a i env m = (a env m).bind fun x m => (i env m).bind fun y m => d1 x (fun x => idxD x y) m := rfl
@[simp] theorem oNone_at : oNone env m = .ok .non m := rfl
@[simp] theorem oSome_at : oSome a env m = (a env m).bind fun x m => match x with | .int i => .ok (.int i) m | _ => .bad := by
  unfold oSome
  dsimp only [bnd]
  congr 1; funext x m; cases x <;> rfl
@[simp] theorem eSli_at : eSli a l h env m = (a env m).bind fun x m => (l env m).bind fun l m => (h env m).bind fun h m => d1 x (fun x => sliD x l h) m := rfl
@[simp] theorem eFld_at (fe : FE) (n : Str) : eFld fe a n env m = (a env m).bind fun x m => lift (fldD fe.cls fe.fl x n) m := rfl
@[simp] theorem eCall_at (n : Nat) (fx : List D → M D) : eCall n fx fs env m = (fs env m).bind fun xs m => if xs.length = n then fx xs m else .bad := by
  unfold eCall
  dsimp only [bnd]
  congr 1; funext x m; split <;> rfl
@[simp] theorem eBlt_at (t : Blt) : eBlt t fs env m = (fs env m).bind fun xs m => dn xs (bltD t) m := rfl
@[simp] theorem eIsi_at (fe : FE) (T : Ty) : eIsi fe T a env m = (a env m).bind fun x m => d1 x (fun x => (isiD fe.cls fe.sub T x).map .bl) m := rfl
@[simp] theorem eMeth_at (t : Sm) : eMeth t a fs env m = (a env m).bind fun x m => match x with | .str z => (fs env m).bind fun xs m => dn xs (smD t z) m | _ => .bad := by
  unfold eMeth
  dsimp only [bnd]
  congr 1; funext x m; cases x <;> rfl
@[simp] theorem eNewL_at : eNewL a env m = (a env m).bind newL := rfl
@[simp] theorem sNil_at : sNil env m = .ok (.nx env) m := rfl
@[simp] theorem sSeq_at : sSeq s1 s2 env m = (s1 env m).bind fun o m => match o with | .nx env => s2 env m | o => .ok o m := by
  show (s1 env m).bind (thenS s2) = _
  congr 1; funext o m; cases o <;> rfl
@[simp] theorem sSet_at (n : Nat) : sSet n a env m = (a env m).bind fun x m => if n < env.length then .ok (.nx (env.set n (.val x))) m else .bad := by
  unfold sSet setS
  dsimp only [bnd]
  congr 1; funext x m; split <;> rfl
@[simp] theorem sRet_at : sRet a env m = (a env m).bind fun x m => .ok (.ret x) m := rfl
@[simp] theorem sExpr_at : sExpr a env m = (a env m).bind fun _ m => .ok (.nx env) m := rfl
@[simp] theorem sIf_at : sIf c s1 s2 env m = (c env m).bind fun x m => match x with | .bl true => s1 env m | .bl false => s2 env m | _ => .bad := by
  show ((c env m).bind fun d => lift (boolOf d)).bind _ = _
  cases c env m with
  | ok d m =>
    cases d with
    | bl k => cases k <;> rfl
    | _ => rfl
  | exc C fs m => rfl
  | bad => rfl
@[simp] theorem runB_at (n : Nat) (args : List D) : runB n s args m = (s (args.map Sl.val ++ List.replicate (n - args.length) Sl.no) m).bind fun o m => match o with | .nx _ => .ok .non m | .ret d => .ok d m | _ => .bad := by
  show (s _ m).bind endF = _
  congr 1; funext o m; cases o <;> rfl
end
end Ev
end
section
set_option Elab.async false
set_option linter.all false
/-! Ev: what comprehensions and loops give. -/
namespace Ev
open PySem L2
/-- a comprehension that leaves the memory: a filter and a map -/
theorem compLoop_map {b : D → Option Env} {c : Env → M Bool} {e : Env → M D} {m : Mem} (p : D → Bool) (g : D → D) : ∀ (ds acc : List D), (∀ d ∈ ds, ∃ env, b d = some env ∧ c env m = .ok (p d) m ∧ (p d = true → e env m = .ok (g d) m)) →
    compLoop b c e ds acc m = .ok (acc ++ (ds.filter p).map g) m
  | [], acc, _ => by rw [compLoop]; simp
  | d :: ds, acc, h => by
    obtain ⟨env, h1, h2, h3⟩ := h d List.mem_cons_self
    rw [compLoop, h1]
    show ((c env m).calm.bind _) = _
    rw [h2]
    cases q : p d with
    | false =>
      show compLoop b c e ds acc m = _
      rw [compLoop_map p g ds acc fun d hd => h d (List.mem_cons_of_mem _ hd), List.filter_cons_of_neg (by rw [q]; exact Bool.false_ne_true)]
    | true =>
      show ((e env m).calm.bind _) = _
      rw [h3 q]
      show compLoop b c e ds (acc ++ [g d]) m = _
      rw [compLoop_map p g ds _ fun d hd => h d (List.mem_cons_of_mem _ hd), List.filter_cons_of_pos q, List.map_cons, List.append_assoc]
      rfl
/-- a comprehension that changes the memory, each element by an invariant -/
theorem compLoop_inv {b : D → Option Env} {e : Env → M D} {I : Mem → Prop} {P : D → Prop} : ∀ (ds acc : List D) (m : Mem), I m → (∀ d ∈ ds, ∀ m, I m → ∃ env v m', b d = some env ∧ e env m = .ok v m' ∧ I m' ∧ P v) →
    ∃ vs m', compLoop b cYes e ds acc m = .ok (acc ++ vs) m' ∧ I m' ∧ vs.length = ds.length ∧ ∀ v ∈ vs, P v
  | [], acc, m, hm, _ => ⟨[], m, by rw [compLoop]; simp, hm, rfl, fun v hv => nomatch hv⟩
  | d :: ds, acc, m, hm, h => by
    obtain ⟨env, v, m1, h1, h2, h3, h4⟩ := h d List.mem_cons_self m hm
    obtain ⟨vs, m2, k1, k2, k3, k4⟩ := compLoop_inv (b := b) (e := e) ds (acc ++ [v]) m1 h3 fun d hd => h d (List.mem_cons_of_mem _ hd)
    refine ⟨v :: vs, m2, ?_, k2, by rw [List.length_cons, List.length_cons, k3], fun w hw => ?_⟩
    · rw [compLoop, h1]
      show ((e env m).calm.bind _) = _
      rw [h2]
      show compLoop b cYes e ds (acc ++ [v]) m1 = _
      rw [k1, List.append_assoc]
      rfl
    · rcases List.mem_cons.mp hw with rfl | hw
      · exact h4
      · exact k4 w hw
/-- a loop whose body always goes on -/
theorem forLoop_inv {b : D → Env → Option Env} {body : Env → M Out} {I : Env → Mem → Prop} : ∀ (ds : List D) (env : Env) (m : Mem), I env m → (∀ d ∈ ds, ∀ env m, I env m → ∃ env1 env2 m', b d env = some env1 ∧ body env1 m = .ok (.nx env2) m' ∧ I env2 m') →
    ∃ env' m', forLoop b body ds env m = .ok (.nx env') m' ∧ I env' m'
  | [], env, m, hm, _ => ⟨env, m, by rw [forLoop], hm⟩
  | d :: ds, env, m, hm, h => by
    obtain ⟨env1, env2, m1, h1, h2, h3⟩ := h d List.mem_cons_self env m hm
    obtain ⟨env', m', k1, k2⟩ := forLoop_inv (b := b) (body := body) ds env2 m1 h3 fun d hd => h d (List.mem_cons_of_mem _ hd)
    refine ⟨env', m', ?_, k2⟩
    rw [forLoop, h1]
    show ((body env1 m).bind _) = _
    rw [h2]
    exact k1
section
variable (env : Env) (m : Mem)
theorem eComp_at (ow : List Nat) (gt : G) (it : Exs) (c : Env → M Bool) (e : Ex) : eComp ow gt it c e env m = (it env m).bind fun ds m => guardM ((slots gt).all fun i => ow.contains i) (bnd (compLoop (fun d => bindG gt d (wipeE env ow)) c e ds []) fun xs => ret (.lst xs)) m := rfl
@[simp] theorem iSeq_at (a : Ex) : iSeq a env m = (a env m).bind fun x m => lift (seqOf x) m := rfl
theorem iRng1_at (a : Ex) : iRng1 a env m = (a env m).bind fun x m => match x with | .int j => guardM (decide (j ≤ line ∧ -(2 ^ 62) ≤ j)) (ret (rangeD 0 j.toNat)) m | _ => .bad := by
  unfold iRng1
  dsimp only [bnd]
  congr 1; funext x m; cases x <;> rfl
@[simp] theorem cYes_at : cYes env m = .ok true m := rfl
@[simp] theorem cOne_at (f : Ex) : cOne f env m = (f env m).bind fun x m => lift (boolOf x) m := rfl
theorem sFor_at (gt : G) (it : Exs) (b : Ss) : sFor gt it b env m = (it env m).bind fun ds m => forLoop (fun d env => bindG gt d env) b ds env m := rfl
end
theorem allBools_map (bs : List Bool) : allBools (bs.map D.bl) = some bs := by
  induction bs with
  | nil => rfl
  | cons b bs ih => show (allBools (bs.map D.bl)).map (b :: ·) = _; rw [ih]; rfl
theorem allStrs_map (bs : List Str) : allStrs (bs.map D.str) = some bs := by
  induction bs with
  | nil => rfl
  | cons b bs ih => show (allStrs (bs.map D.str)).map (b :: ·) = _; rw [ih]; rfl
end Ev
end
section
set_option Elab.async false
set_option linter.all false
/-! Ev: the operators at numbers, texts and flat tuples. -/
namespace Ev
open PySem L2
theorem toPys_ints (r : List Int) : toPys (r.map D.int) = some (r.map PyData.int) := by
  induction r with
  | nil => rfl
  | cons i r ih => rw [List.map_cons, List.map_cons, toPys, ih]; rfl
theorem toPys_strs (r : List Str) : toPys (r.map D.str) = some (r.map PyData.str) := by
  induction r with
  | nil => rfl
  | cons i r ih => rw [List.map_cons, List.map_cons, toPys, ih]; rfl
theorem lay_ints (r : List Int) : PyData.canLayAll0 (r.map PyData.int) = true := by
  induction r with
  | nil => rfl
  | cons i r ih => rw [List.map_cons, PyData.canLayAll0, ih]; rfl
theorem lay_strs (r : List Str) (h : ∀ s ∈ r, PyData.strOk s = true) : PyData.canLayAll0 (r.map PyData.str) = true := by
  induction r with
  | nil => rfl
  | cons i r ih =>
    rw [List.map_cons, PyData.canLayAll0, ih fun s hs => h s (List.mem_cons_of_mem _ hs), PyData.canLay0, h i List.mem_cons_self]
    rfl
theorem eqvAll_ints (r q : List Int) : PyData.eqvAll (r.map PyData.int) (q.map PyData.int) = decide (r = q) := by
  induction r generalizing q with
  | nil => cases q with
    | nil => rfl
    | cons => rfl
  | cons i r ih => cases q with
    | nil => rfl
    | cons j q =>
      rw [List.map_cons, List.map_cons, PyData.eqvAll, ih, PyData.eqv]
      by_cases h1 : i = j
      · by_cases h2 : r = q <;> simp [h1, h2]
      · simp [h1]
theorem eqvAll_strs (r q : List Str) : PyData.eqvAll (r.map PyData.str) (q.map PyData.str) = decide (r = q) := by
  induction r generalizing q with
  | nil => cases q with
    | nil => rfl
    | cons => rfl
  | cons i r ih => cases q with
    | nil => rfl
    | cons j q =>
      rw [List.map_cons, List.map_cons, PyData.eqvAll, ih, PyData.eqv]
      by_cases h1 : i = j
      · by_cases h2 : r = q <;> simp [h1, h2]
      · simp [h1]
theorem eqD_of {a b : D} {x y : PyData} (ha : toPy a = some x) (hb : toPy b = some y) (hx : SeqAt.shaped x = true) (hy : SeqAt.shaped y = true) : eqD a b = some (PyData.eqv x y) := by
  unfold eqD
  rw [ha, hb]
  simp only [hx, hy, Bool.and_self, if_true]
@[simp] theorem eqD_int (i j : Int) : eqD (.int i) (.int j) = some (decide (i = j)) := by
  rw [eqD_of (x := .int i) (y := .int j) rfl rfl rfl rfl]
  show some (i == j) = _
  by_cases h : i = j <;> simp [h]
theorem eqD_str {x y : Str} (hx : PyData.strOk x = true) (hy : PyData.strOk y = true) : eqD (.str x) (.str y) = some (decide (x = y)) := by
  have sh : ∀ {z : Str}, PyData.strOk z = true → SeqAt.shaped (.str z) = true := fun {z} h => by
    show (PyData.canLay0 (.str z) && _) = true
    rw [show PyData.canLay0 (.str z) = true from h]
    rfl
  rw [eqD_of (x := .str x) (y := .str y) rfl rfl (sh hx) (sh hy)]
  show some (x == y) = _
  by_cases h : x = y <;> simp [h]
theorem depth_ints (r : List Int) : PyData.depthAll (r.map PyData.int) = 0 := by
  induction r with
  | nil => rfl
  | cons i r ih => rw [List.map_cons, PyData.depthAll, ih]; rfl
theorem depth_strs (r : List Str) : PyData.depthAll (r.map PyData.str) = 0 := by
  induction r with
  | nil => rfl
  | cons i r ih => rw [List.map_cons, PyData.depthAll, ih]; rfl
theorem toPy_tupI (r : List Int) : toPy (.tup (r.map D.int)) = some (.tuple (r.map PyData.int)) := by rw [toPy, toPys_ints]; rfl
theorem toPy_lstS (r : List Str) : toPy (.lst (r.map D.str)) = some (.list (r.map PyData.str)) := by rw [toPy, toPys_strs]; rfl
theorem shaped_tupI (r : List Int) : SeqAt.shaped (.tuple (r.map PyData.int)) = true := by
  show (PyData.canLay0 (.tuple _) && decide (PyData.depth (.tuple _) ≤ 64)) = true
  rw [PyData.canLay0, lay_ints, PyData.depth, depth_ints]
  rfl
theorem shaped_lstS (r : List Str) (h : ∀ s ∈ r, PyData.strOk s = true) : SeqAt.shaped (.list (r.map PyData.str)) = true := by
  show (PyData.canLay0 (.list _) && decide (PyData.depth (.list _) ≤ 64)) = true
  rw [PyData.canLay0, lay_strs r h, PyData.depth, depth_strs]
  rfl
theorem eqD_tupI (r q : List Int) : eqD (.tup (r.map D.int)) (.tup (q.map D.int)) = some (decide (r = q)) := by
  rw [eqD_of (toPy_tupI r) (toPy_tupI q) (shaped_tupI r) (shaped_tupI q), PyData.eqv, eqvAll_ints]
theorem eqD_lstS (r q : List Str) (h : ∀ s ∈ r, PyData.strOk s = true) (h' : ∀ s ∈ q, PyData.strOk s = true) : eqD (.lst (r.map D.str)) (.lst (q.map D.str)) = some (decide (r = q)) := by
  rw [eqD_of (toPy_lstS r) (toPy_lstS q) (shaped_lstS r h) (shaped_lstS q h'), PyData.eqv, eqvAll_strs]
end Ev
end
section
set_option Elab.async false
set_option linter.all false
set_option maxRecDepth 100000
set_option maxHeartbeats 2000000
/-! K89: what the defs give. -/
namespace K89
open PySem Ev Pg
variable {fe : FE}
theorem pow18 : binD .pow (.int 10) (.int 18) = some (.int 1000000000000000000) := by
  simp only [binD]
  rw [if_pos (by decide)]
  rfl
theorem isi_int_int (i : Int) : isiD fe.cls fe.sub .int (.int i) = some true := rfl
theorem isi_bool_int (i : Int) : isiD fe.cls fe.sub .bool (.int i) = some false := rfl
def whole (i : Int) : Bool := decide (-1000000000000000000 < i) && decide (i < 1000000000000000000)
theorem is_whole_int (i : Int) (m : Mem) : F_is_whole fe [.int i] m = .ok (.bl (whole i)) m := by
  unfold whole
  by_cases h : (-1000000000000000000 : Int) < i
  · simp [F_is_whole, b_is_whole, pow18, isi_int_int, isi_bool_int, cmpD, d1, d2, deref, h]
  · simp [F_is_whole, b_is_whole, pow18, isi_int_int, isi_bool_int, cmpD, d1, d2, deref, h]
theorem is_number_int (i lo hi : Int) (m : Mem) (h : whole i = true) : F_is_number fe [.int i, .int lo, .int hi] m = .ok (.bl (decide (lo ≤ i) && decide (i ≤ hi))) m := by
  by_cases q : lo ≤ i
  · simp [F_is_number, b_is_number, is_whole_int, h, cmpD, d2, deref, q]
  · simp [F_is_number, b_is_number, is_whole_int, h, cmpD, d2, deref, q]
/-- a row of signs -/
def Row (r : List Int) : Prop := r.length ≤ 9 ∧ ∀ i ∈ r, i = -1 ∨ i = 0 ∨ i = 1
theorem row_whole {i : Int} (h : i = -1 ∨ i = 0 ∨ i = 1) : whole i = true := by rcases h with rfl | rfl | rfl <;> decide
theorem row_in {i : Int} (h : i = -1 ∨ i = 0 ∨ i = 1) : (decide (-1 ≤ i) && decide (i ≤ 1)) = true := by rcases h with rfl | rfl | rfl <;> decide
theorem isi_tup (ds : List D) : isiD fe.cls fe.sub .tuple (.tup ds) = some true := rfl
theorem len_tup (ds : List D) : bltD .len [.tup ds] = some (.int ds.length) := rfl
theorem are_signs_row (r : List Int) (h : Row r) (m : Mem) : F_are_signs fe [.tup (r.map .int), .int r.length] m = .ok (.bl true) m := by
  have hl : compLoop (fun d => bindG (.name 2) d (wipeE [.val (.tup (r.map .int)), .val (.int r.length), .no] [2])) cYes (eCall 3 (F_is_number fe) (esCons (eVar 2) (esCons (eNeg (eCon (.int 1))) (esCons (eCon (.int 1)) esNil)))) (r.map .int) [] m = .ok ([] ++ ((r.map D.int).filter fun _ => true).map fun _ => .bl true) m := by
    refine compLoop_map (fun _ => true) (fun _ => .bl true) _ _ fun d hd => ?_
    obtain ⟨i, hi, rfl⟩ := List.mem_map.mp hd
    refine ⟨_, rfl, rfl, fun _ => ?_⟩
    simp [is_number_int, row_whole (h.2 i hi), wipeE]
    have := row_in (h.2 i hi)
    simpa using this
  have hb : allBools (List.map (fun _ => D.bl true) (List.filter (fun _ => true) (r.map D.int))) = some (List.map (fun _ => true) r) := by
    rw [List.filter_eq_self.mpr (fun _ _ => rfl)]
    have e : List.map (fun _ => D.bl true) (r.map D.int) = (List.map (fun _ => true) r).map D.bl := by rw [List.map_map, List.map_map]; rfl
    rw [e, allBools_map]
  simp [F_are_signs, b_are_signs, isi_tup, len_tup, d1, d2, dn, derefs, deref, cmpD, eComp_at, slots, seqOf]
  rw [hl]
  simp [derefs, deref, bltD]
  rw [hb]
  simp
theorem is_row_row (r : List Int) (h : Row r) (m : Mem) : F_is_row fe [.tup (r.map .int)] m = .ok (.bl true) m := by
  have h9 : (r.length : Int) ≤ 9 := by have := h.1; omega
  simp [F_is_row, b_is_row, isi_tup, len_tup, d1, d2, dn, derefs, deref, cmpD, h9, are_signs_row r h]
theorem need_row_row (r : List Int) (h : Row r) (m : Mem) : F_need_row fe [.tup (r.map .int)] m = .ok .non m := by
  simp [F_need_row, b_need_row, is_row_row r h]
/-- the sign of a number, the text of a row -/
def mk (i : Int) : Nat := if i = -1 then 45 else if i = 0 then 48 else 43
def marks (r : List Int) : Str := ⟨(r.map mk).toArray⟩
theorem glue_foldl (r : List Int) (acc : Array Nat) : (r.map fun i => (⟨#[mk i]⟩ : Str)).foldl (fun acc p => acc ++ ("" : Str).cps ++ p.cps) acc = acc ++ (r.map mk).toArray := by
  induction r generalizing acc with
  | nil => simp
  | cons i r ih =>
    rw [List.map_cons, List.foldl_cons, ih]
    have e : ("" : Str).cps = #[] := by decide
    rw [e]
    simp
theorem join_marks (r : List Int) : Txt.join "" (r.map fun i => (⟨#[mk i]⟩ : Str)) = marks r := by
  show Builtin.Str.glued _ _ = _
  unfold Builtin.Str.glued
  cases r with
  | nil => rfl
  | cons i r =>
    rw [List.map_cons]
    show (⟨List.foldl _ #[mk i] (r.map fun i => (⟨#[mk i]⟩ : Str))⟩ : Str) = _
    rw [glue_foldl]
    unfold marks
    simp
theorem idx_mark {i : Int} (h : i = -1 ∨ i = 0 ∨ i = 1) : idxD (.str "-0+") (.int (i + 1)) = some (.str ⟨#[mk i]⟩) := by
  rcases h with rfl | rfl | rfl <;> rfl
theorem marks_of_row (r : List Int) (h : Row r) (m : Mem) : F_marks_of fe [.tup (r.map .int)] m = .ok (.str (marks r)) m := by
  have hl : compLoop (fun d => bindG (.name 1) d (wipeE [.val (.tup (r.map .int)), .no] [1])) cYes (eIdx (eCon (.str "-0+")) (eBin .add (wVar 1) (eCon (.int 1)))) (r.map .int) [] m = .ok ([] ++ ((r.map D.int).filter fun _ => true).map fun d => match d with | .int i => .str ⟨#[mk i]⟩ | d => d) m := by
    refine compLoop_map (fun _ => true) _ _ _ fun d hd => ?_
    obtain ⟨i, hi, rfl⟩ := List.mem_map.mp hd
    refine ⟨_, rfl, rfl, fun _ => ?_⟩
    have := idx_mark (h.2 i hi)
    simp [d1, d2, deref, binD, wipeE, this]
  have e : (((r.map D.int).filter fun _ => true).map fun d => match d with | .int i => .str ⟨#[mk i]⟩ | d => d) = (r.map fun i => (⟨#[mk i]⟩ : Str)).map D.str := by
    rw [List.filter_eq_self.mpr (fun _ _ => rfl), List.map_map, List.map_map]
    rfl
  have hs : ((r.map fun i => (⟨#[mk i]⟩ : Str)).map (·.length)).sum + (r.map fun i => (⟨#[mk i]⟩ : Str)).length * ("" : Str).length ≤ 16777216 := by
    have e1 : ((r.map fun i => (⟨#[mk i]⟩ : Str)).map (·.length)).sum = r.length := by
      rw [List.map_map]
      clear hl e h
      induction r with
      | nil => rfl
      | cons i r ih => rw [List.map_cons, List.sum_cons, ih, List.length_cons]; show 1 + _ = _; omega
    have e2 : ("" : Str).length = 0 := by decide
    have := h.1
    rw [e1, e2]; omega
  simp [F_marks_of, b_marks_of, d1, d2, dn, derefs, deref, eComp_at, slots, seqOf]
  rw [hl, e]
  simp only [List.nil_append, Res.bind_ok, Ev.ret, derefs, deref]
  simp only [smD, allStrs_map, Option.bind_some]
  rw [if_pos hs, join_marks]
  rfl
/-- the text of a row -/
def rowText (r : List Int) : Str := if r = [] then "row" else "row " ++ marks r
theorem row_text_row (r : List Int) (h : Row r) (m : Mem) : F_row_text fe [.tup (r.map .int)] m = .ok (.str (rowText r)) m := by
  have e := eqD_tupI r []
  by_cases q : r = []
  · subst q
    rfl
  · have hl : (("row " : Str).length + (marks r).length ≤ line) := by
      have h1 : (marks r).length = r.length := by simp [marks, Str.length]
      have h2 : ("row " : Str).length = 4 := by decide
      have := h.1
      rw [h1, h2, line]; omega
    rw [List.map_nil] at e
    simp [F_row_text, b_row_text, need_row_row r h, d2, deref, cmpD, e, q, marks_of_row r h, binD, hl, rowText]
theorem bad_rows (m : Mem) : F_row_text fe [.non] m = .exc "BadRow" [] m ∧ F_row_text fe [.lst [.int 0]] m = .exc "BadRow" [] m ∧ F_row_text fe [.tup [.int 2]] m = .exc "BadRow" [] m ∧ F_row_text fe [.tup [.bl true]] m = .exc "BadRow" [] m ∧ F_row_text fe [.tup (List.replicate 10 (.int 0))] m = .exc "BadRow" [] m ∧ F_row_text fe [.str "row"] m = .exc "BadRow" [] m ∧ F_row_text fe [.tup [.int 0, .non]] m = .exc "BadRow" [] m :=
  ⟨rfl, rfl, rfl, rfl, rfl, rfl, rfl⟩
theorem bad_texts (m : Mem) : F_row_of_text fe [.non] m = .exc "BadText" [("line", .int 0)] m ∧ F_row_of_text fe [.int 5] m = .exc "BadText" [("line", .int 0)] m ∧ (∀ ds, F_row_of_text fe [.tup ds] m = .exc "BadText" [("line", .int 0)] m) ∧ F_row_of_text fe [.bl true] m = .exc "BadText" [("line", .int 0)] m :=
  ⟨rfl, rfl, fun _ => rfl, rfl⟩
end K89
end
section
set_option Elab.async false
set_option linter.all false
/-! Ev: texts cut at a sign. -/
namespace Ev
open PySem L2
def splitL (c : Nat) : List Nat → List (List Nat)
  | [] => [[]]
  | x :: xs => if x = c then [] :: splitL c xs else match splitL c xs with
    | [] => [[x]]
    | p :: ps => (x :: p) :: ps
def joinL (c : Nat) : List (List Nat) → List Nat
  | [] => []
  | [p] => p
  | p :: q :: r => p ++ c :: joinL c (q :: r)
theorem splitL_free {c : Nat} {p : List Nat} (h : c ∉ p) (l : List Nat) : splitL c (p ++ c :: l) = p :: splitL c l := by
  induction p with
  | nil => show splitL c (c :: l) = _; rw [splitL, if_pos rfl]
  | cons x p ih =>
    have hx : ¬ x = c := fun e => h (e ▸ List.mem_cons_self)
    show splitL c (x :: (p ++ c :: l)) = _
    rw [splitL, if_neg hx, ih fun z => h (List.mem_cons_of_mem _ z)]
theorem splitL_last {c : Nat} {p : List Nat} (h : c ∉ p) : splitL c p = [p] := by
  induction p with
  | nil => rfl
  | cons x p ih =>
    have hx : ¬ x = c := fun e => h (e ▸ List.mem_cons_self)
    rw [splitL, if_neg hx, ih fun z => h (List.mem_cons_of_mem _ z)]
theorem split_join {c : Nat} : ∀ {ps : List (List Nat)}, ps ≠ [] → (∀ p ∈ ps, c ∉ p) → splitL c (joinL c ps) = ps
  | [], h, _ => absurd rfl h
  | [p], _, h => by rw [joinL, splitL_last (h p List.mem_cons_self)]
  | p :: q :: r, _, h => by rw [joinL, splitL_free (h p List.mem_cons_self), split_join (List.cons_ne_nil _ _) fun x hx => h x (List.mem_cons_of_mem _ hx)]
theorem join_toList (c : Nat) : ∀ ps : List Str, (Str.join ⟨#[c]⟩ ps).cps.toList = joinL c (ps.map (·.cps.toList))
  | [] => rfl
  | [p] => rfl
  | p :: q :: r => by
    have e : Str.join ⟨#[c]⟩ (p :: q :: r) = p ++ ⟨#[c]⟩ ++ Str.join ⟨#[c]⟩ (q :: r) := rfl
    have ih := join_toList c (q :: r)
    rw [List.map_cons] at ih
    rw [e, List.map_cons, List.map_cons, joinL, ← ih]
    show (p.cps ++ #[c] ++ (Str.join ⟨#[c]⟩ (q :: r)).cps).toList = _
    simp
/-- a text cut at one sign -/
theorem split_toList (x : Str) (c : Nat) : (Txt.split x ⟨#[c]⟩).map (·.cps.toList) = splitL c x.cps.toList := by
  have e := congrArg (fun z : Str => z.cps.toList) (StrLaws.join_split x ⟨#[c]⟩)
  have e : (Str.join ⟨#[c]⟩ (Txt.split x ⟨#[c]⟩)).cps.toList = x.cps.toList := e
  rw [join_toList] at e
  rw [← e]
  refine (split_join (fun z => ?_) fun p hp => ?_).symm
  · have := PyProof.Rows.split_pos x ⟨#[c]⟩
    rw [List.map_eq_nil_iff] at z
    rw [z] at this
    exact absurd this (by decide)
  · obtain ⟨q, hq, rfl⟩ := List.mem_map.mp hp
    exact StrLaws.split_free x c q hq
theorem split_eq (x : Str) (c : Nat) : Txt.split x ⟨#[c]⟩ = (splitL c x.cps.toList).map fun p => (⟨p.toArray⟩ : Str) := by
  rw [← split_toList, List.map_map]
  conv => lhs; rw [← List.map_id (Txt.split x ⟨#[c]⟩)]
  rfl
end Ev
end
section
set_option Elab.async false
set_option linter.all false
/-! K89: reading a row, in plain Lean. -/
namespace K89
open Ev
theorem splitL_ne (c : Nat) (l : List Nat) : splitL c l ≠ [] := by
  cases l with
  | nil => exact List.cons_ne_nil _ _
  | cons x xs =>
    rw [splitL]
    split
    · exact List.cons_ne_nil _ _
    · split <;> exact List.cons_ne_nil _ _
theorem join_split (c : Nat) (l : List Nat) : joinL c (splitL c l) = l := by
  induction l with
  | nil => rfl
  | cons x xs ih =>
    rw [splitL]
    split
    · rename_i h
      subst h
      cases q : splitL x xs with
      | nil => exact absurd q (splitL_ne x xs)
      | cons p ps => rw [q] at ih; rw [joinL, ih]; rfl
    · cases q : splitL c xs with
      | nil => exact absurd q (splitL_ne c xs)
      | cons p ps =>
        rw [q] at ih
        dsimp only
        cases ps with
        | nil => rw [joinL] at ih ⊢; rw [ih]
        | cons a b => rw [joinL] at ih ⊢; rw [← ih]; rfl
theorem split_one {c : Nat} {l : List Nat} (h : c ∈ l) : ∃ p q r, splitL c l = p :: q :: r := by
  cases e : splitL c l with
  | nil => exact absurd e (splitL_ne c l)
  | cons p ps =>
    cases ps with
    | cons q r => exact ⟨p, q, r, rfl⟩
    | nil =>
      exfalso
      have j := join_split c l
      rw [e, joinL] at j
      subst j
      obtain ⟨a, b, rfl⟩ := List.append_of_mem h
      clear h
      induction a with
      | nil => rw [List.nil_append, splitL, if_pos rfl] at e; exact splitL_ne c b (List.cons.inj e).2
      | cons x a ih =>
        rw [List.cons_append, splitL] at e
        split at e
        · exact splitL_ne c _ (List.cons.inj e).2
        · split at e
          · rename_i q; exact splitL_ne c _ q
          · rename_i p ps q
            obtain ⟨e1, e2⟩ := List.cons.inj e
            have e1 := (List.cons.inj e1).2
            subst e1 e2
            exact ih q
abbrev rowL : List Nat := [114, 111, 119]
def valid (c : Nat) : Bool := decide (c = 45) || decide (c = 48) || decide (c = 43)
def val (c : Nat) : Int := if c = 45 then -1 else if c = 48 then 0 else 1
/-- what the program finds in a line -/
def found (l : List Nat) : Option (List Int) :=
  if splitL 32 l = [rowL] then some []
  else match splitL 32 l with
    | [p, q] => if p = rowL ∧ q ≠ [] ∧ q.all valid = true then some (q.map val) else none
    | _ => none
/-- the marks that the law sees in it -/
def seen (l : List Nat) : List Nat := if l.take 4 = rowL ++ [32] then l.drop 4 else []
theorem found_row : found rowL = some [] := by decide
theorem found_not {l : List Nat} (h : l ≠ rowL) (b : seen l = [] ∨ (seen l).all valid = false) : found l = none := by
  have n1 : splitL 32 l ≠ [rowL] := fun e => by
    have j := join_split 32 l
    rw [e, joinL] at j
    exact h j.symm
  unfold found
  rw [if_neg n1]
  split
  · rename_i p q e
    rw [if_neg]
    rintro ⟨rfl, hq, hv⟩
    have j := join_split 32 l
    rw [e, joinL, joinL] at j
    have s : seen l = q := by
      unfold seen
      rw [← j]
      rfl
    rw [s] at b
    rcases b with b | b
    · exact hq b
    · rw [hv] at b; cases b
  · rfl
theorem found_yes {l : List Nat} (h : l ≠ rowL) (h1 : seen l ≠ []) (h2 : (seen l).all valid = true) : found l = some ((seen l).map val) := by
  have n1 : splitL 32 l ≠ [rowL] := fun e => by
    have j := join_split 32 l
    rw [e, joinL] at j
    exact h j.symm
  unfold found
  rw [if_neg n1]
  have ht : l.take 4 = rowL ++ [32] := by
    unfold seen at h1
    split at h1
    · assumption
    · exact absurd rfl h1
  have hl : l = rowL ++ 32 :: seen l := by
    have e := List.take_append_drop 4 l
    rw [ht] at e
    unfold seen
    rw [if_pos ht]
    exact e.symm
  have hf : (32 : Nat) ∉ seen l := fun z => by
    have := List.all_eq_true.mp h2 32 z
    exact absurd this (by decide)
  have e : splitL 32 l = [rowL, seen l] := by
    conv => lhs; rw [hl]
    rw [splitL_free (by decide), splitL_last hf]
  rw [e]
  dsimp only
  rw [if_pos ⟨rfl, h1, h2⟩]
/-- what is read back is the text -/
theorem seen_back {l : List Nat} (h1 : seen l ≠ []) : l = rowL ++ 32 :: seen l := by
  have ht : l.take 4 = rowL ++ [32] := by
    unfold seen at h1
    split at h1
    · assumption
    · exact absurd rfl h1
  have e := List.take_append_drop 4 l
  rw [ht] at e
  unfold seen
  rw [if_pos ht]
  exact e.symm
end K89
end
section
set_option Elab.async false
set_option linter.all false
set_option maxRecDepth 100000
set_option maxHeartbeats 2000000
/-! K89: reading a row. -/
namespace K89
open PySem Ev Pg
variable {fe : FE}
def hd (d : D) : Nat := match d with | .str s => s.cps.toList.headD 0 | _ => 0
theorem marks_list : ("-0+" : Str).cps.toList = [45, 48, 43] := by decide
theorem notin_mark (c : Nat) : cmpD .notin (.str ⟨#[c]⟩) (.str "-0+") = some (!valid c) := by
  have h := PySem.StrLaws.found_one "-0+" c
  show some (!(!(Builtin.Str.occurrences _ _ 0 _ 1).isEmpty)) = _
  rw [h, marks_list]
  unfold valid
  simp
  by_cases h1 : c = 45 <;> by_cases h2 : c = 48 <;> by_cases h3 : c = 43 <;> simp [h1, h2, h3]
theorem index_mark {c : Nat} (h : valid c = true) : ∃ i : Nat, smD .sindex "-0+" [.str ⟨#[c]⟩] = some (.int i) ∧ (i : Int) - 1 = val c := by
  have : c = 45 ∨ c = 48 ∨ c = 43 := by
    unfold valid at h
    simp only [Bool.or_eq_true, decide_eq_true_eq] at h
    omega
  rcases this with rfl | rfl | rfl
  · refine ⟨0, ?_, by decide⟩
    have e : Builtin.Str.occurrences "-0+" ⟨#[45]⟩ 0 ("-0+" : Str).length 1 = [0] := by decide +kernel
    simp only [smD, e]
  · refine ⟨1, ?_, by decide⟩
    have e : Builtin.Str.occurrences "-0+" ⟨#[48]⟩ 0 ("-0+" : Str).length 1 = [1] := by decide +kernel
    simp only [smD, e]
  · refine ⟨2, ?_, by decide⟩
    have e : Builtin.Str.occurrences "-0+" ⟨#[43]⟩ 0 ("-0+" : Str).length 1 = [2] := by decide +kernel
    simp only [smD, e]
theorem blt_any (bs : List Bool) : bltD .any [.lst (bs.map .bl)] = some (.bl (bs.any id)) := by
  show (allBools (bs.map D.bl)).map (fun bs => D.bl (bs.any id)) = _
  rw [allBools_map]
  rfl
theorem blt_tup (ds : List D) : bltD .tuple [.lst ds] = some (.tup ds) := rfl
theorem dn_lst (ds : List D) (k : List D → Option D) (m : Mem) : dn [.lst ds] k m = lift (k [.lst ds]) m := rfl
theorem seq_str (w : Str) (hw : w.length ≤ line) : seqOf (.str w) = some (w.cps.toList.map fun c => .str ⟨#[c]⟩) := by
  exact if_pos hw
theorem signs_of_marks_str (w : Str) (hw : w.length ≤ line) (m : Mem) : F_signs_of_marks fe [.str w] m = .ok (if w.cps.toList.all valid then .tup ((w.cps.toList.map val).map .int) else .non) m := by
  have h1 : compLoop (fun d => bindG (.name 1) d (wipeE [.val (.str w), .no] [1])) cYes (eCmp .notin (wVar 1) (eCon (.str "-0+"))) (w.cps.toList.map fun c => .str ⟨#[c]⟩) [] m =
      .ok ([] ++ ((w.cps.toList.map fun c => D.str ⟨#[c]⟩).filter fun _ => true).map fun d => .bl (!valid (hd d))) m := by
    refine compLoop_map (fun _ => true) _ _ _ fun d hd => ?_
    obtain ⟨c, hc, rfl⟩ := List.mem_map.mp hd
    refine ⟨_, rfl, rfl, fun _ => ?_⟩
    have := notin_mark c
    simp [d2, deref, wipeE, this, K89.hd]
  have h2 : w.cps.toList.all valid = true → compLoop (fun d => bindG (.name 1) d (wipeE [.val (.str w), .no] [1])) cYes (eBin .sub (eMeth .sindex (eCon (.str "-0+")) (esCons (wVar 1) esNil)) (eCon (.int 1))) (w.cps.toList.map fun c => .str ⟨#[c]⟩) [] m =
      .ok ([] ++ ((w.cps.toList.map fun c => D.str ⟨#[c]⟩).filter fun _ => true).map fun d => .int (val (hd d))) m := fun hv => by
    refine compLoop_map (fun _ => true) _ _ _ fun d hd => ?_
    obtain ⟨c, hc, rfl⟩ := List.mem_map.mp hd
    refine ⟨_, rfl, rfl, fun _ => ?_⟩
    obtain ⟨i, e1, e2⟩ := index_mark (List.all_eq_true.mp hv c hc)
    simp [d2, dn, derefs, deref, wipeE, e1, binD, e2, K89.hd]
  have e1 : (((w.cps.toList.map fun c => D.str ⟨#[c]⟩).filter fun _ => true).map fun d => D.bl (!valid (hd d))) = (w.cps.toList.map fun c => !valid c).map D.bl := by
    rw [List.filter_eq_self.mpr (fun _ _ => rfl), List.map_map, List.map_map]
    rfl
  have e2 : (((w.cps.toList.map fun c => D.str ⟨#[c]⟩).filter fun _ => true).map fun d => D.int (val (hd d))) = (w.cps.toList.map val).map D.int := by
    rw [List.filter_eq_self.mpr (fun _ _ => rfl), List.map_map, List.map_map]
    rfl
  have an : (w.cps.toList.map fun c => !valid c).any id = !w.cps.toList.all valid := by
    rw [List.any_map]
    induction w.cps.toList with
    | nil => rfl
    | cons c l ih =>
      have ih : (l.any fun c => !valid c) = !l.all valid := ih
      show ((!valid c) || l.any fun c => !valid c) = !(valid c && l.all valid)
      rw [ih]
      cases valid c <;> rfl
  have A : eBlt .any (esCons (eComp [1] (.name 1) (iSeq (wVar 0)) cYes (eCmp .notin (wVar 1) (eCon (.str "-0+")))) esNil) [.val (.str w), .no] m = .ok (.bl (!w.cps.toList.all valid)) m := by
    simp only [eBlt_at, esCons_at, eComp_at, iSeq_at, wVar_at, esNil_at]
    simp only [List.getElem?_cons_zero, Res.bind_ok, seq_str w hw, lift_some, slots, List.all_cons, List.all_nil, List.contains_cons, beq_self_eq_true, Bool.true_or, Bool.and_true, guardM_true, bnd_at]
    rw [h1, e1]
    simp only [List.nil_append, Res.bind_ok, Ev.ret, dn_lst, blt_any, an, lift_some]
  have B : w.cps.toList.all valid = true → eBlt .tuple (esCons (eComp [1] (.name 1) (iSeq (wVar 0)) cYes (eBin .sub (eMeth .sindex (eCon (.str "-0+")) (esCons (wVar 1) esNil)) (eCon (.int 1)))) esNil) [.val (.str w), .no] m = .ok (.tup ((w.cps.toList.map val).map .int)) m := fun hv => by
    simp only [eBlt_at, esCons_at, eComp_at, iSeq_at, wVar_at, esNil_at]
    simp only [List.getElem?_cons_zero, Res.bind_ok, seq_str w hw, lift_some, slots, List.all_cons, List.all_nil, List.contains_cons, beq_self_eq_true, Bool.true_or, Bool.and_true, guardM_true, bnd_at]
    rw [h2 hv, e2]
    simp only [List.nil_append, Res.bind_ok, Ev.ret, dn_lst, blt_tup, lift_some]
  have start : ([D.str w].map Sl.val ++ List.replicate (2 - [D.str w].length) Sl.no : List Sl) = [Sl.val (.str w), Sl.no] := rfl
  cases hv : w.cps.toList.all valid with
  | false =>
    simp only [F_signs_of_marks, b_signs_of_marks, runB_at, sSeq_at, sIf_at, start, A, hv, Bool.not_false, Res.bind_ok, sRet_at, eCon_at, Bool.false_eq_true, if_false]
  | true =>
    simp only [F_signs_of_marks, b_signs_of_marks, runB_at, sSeq_at, sIf_at, start, A, hv, Bool.not_true, Res.bind_ok, sRet_at, sNil_at, B hv, if_true]
end K89
end
section
set_option Elab.async false
set_option linter.all false
set_option maxRecDepth 100000
set_option maxHeartbeats 2000000
/-! K89: a text is read. -/
namespace K89
open PySem Ev Pg
variable {fe : FE}
abbrev S (p : List Nat) : Str := ⟨p.toArray⟩
theorem S_inj {p q : List Nat} : S p = S q ↔ p = q := ⟨fun h => by have := congrArg (fun z : Str => z.cps.toList) h; simpa using this, fun h => by rw [h]⟩
theorem s_nl : ("\n" : Str) = S [10] := by decide
theorem s_sp : (" " : Str) = S [32] := by decide
theorem s_row : ("row" : Str) = S rowL := by decide
theorem s_none : ("" : Str) = S [] := by decide
theorem s_row_ : ("row " : Str) = S (rowL ++ [32]) := by decide
def ok (p : List Nat) : Bool := p.all (· < 0x110000)
theorem strOk_S (p : List Nat) : PyData.strOk (S p) = ok p := by
  show Array.all p.toArray _ = _
  rw [List.all_toArray]
  rfl
theorem split_S (p : List Nat) (c : Nat) : Txt.split (S p) (S [c]) = (splitL c p).map S := split_eq (S p) c
theorem splitL_sub {c : Nat} : ∀ {l p : List Nat}, p ∈ splitL c l → ∀ x ∈ p, x ∈ l
  | [], p, h, x, hx => by rw [splitL, List.mem_singleton] at h; subst h; cases hx
  | y :: l, p, h, x, hx => by
    rw [splitL] at h
    split at h
    · rcases List.mem_cons.mp h with rfl | h
      · cases hx
      · exact List.mem_cons_of_mem _ (splitL_sub h x hx)
    · split at h
      · rw [List.mem_singleton] at h
        subst h
        rw [List.mem_singleton] at hx
        exact hx ▸ List.mem_cons_self
      · rename_i q qs e
        rcases List.mem_cons.mp h with rfl | h
        · rcases List.mem_cons.mp hx with rfl | hx
          · exact List.mem_cons_self
          · exact List.mem_cons_of_mem _ (splitL_sub (c := c) (by rw [e]; exact List.mem_cons_self) x hx)
        · exact List.mem_cons_of_mem _ (splitL_sub (c := c) (by rw [e]; exact List.mem_cons_of_mem _ h) x hx)
theorem ok_sub {c : Nat} {l p : List Nat} (h : ok l = true) (hp : p ∈ splitL c l) : ok p = true := List.all_eq_true.mpr fun x hx => List.all_eq_true.mp h x (splitL_sub hp x hx)
theorem splitL_len {c : Nat} : ∀ {l p : List Nat}, p ∈ splitL c l → p.length ≤ l.length
  | [], p, h => by rw [splitL, List.mem_singleton] at h; subst h; exact Nat.le_refl _
  | y :: l, p, h => by
    rw [splitL] at h
    split at h
    · rcases List.mem_cons.mp h with rfl | h
      · exact Nat.zero_le _
      · exact Nat.le_succ_of_le (splitL_len h)
    · split at h
      · rw [List.mem_singleton] at h
        subst h
        simp
      · rename_i q qs e
        rcases List.mem_cons.mp h with rfl | h
        · exact Nat.succ_le_succ (splitL_len (c := c) (l := l) (by rw [e]; exact List.mem_cons_self))
        · exact Nat.le_succ_of_le (splitL_len (c := c) (l := l) (by rw [e]; exact List.mem_cons_of_mem _ h))
theorem smD_split (p : List Nat) (c : Nat) (h : p.length + 2 ≤ line) : smD .split (S p) [.str (S [c])] = some (.lst ((splitL c p).map fun q => .str (S q))) := by
  show (if _ then some (D.lst ((Txt.split (S p) (S [c])).map D.str)) else none) = _
  rw [if_pos ⟨rfl, by simpa [Str.length] using h⟩, split_S, List.map_map]
  rfl
theorem eqD_S {p q : List Nat} (hp : ok p = true) (hq : ok q = true) : eqD (.str (S p)) (.str (S q)) = some (decide (p = q)) := by
  rw [eqD_str (by rw [strOk_S]; exact hp) (by rw [strOk_S]; exact hq)]
  by_cases h : p = q
  · simp [h]
  · have : ¬ S p = S q := fun z => h (S_inj.mp z)
    simp [h, this]
theorem eqD_Ss {ps qs : List (List Nat)} (hp : ∀ p ∈ ps, ok p = true) (hq : ∀ p ∈ qs, ok p = true) : eqD (.lst (ps.map fun q => .str (S q))) (.lst (qs.map fun q => .str (S q))) = some (decide (ps = qs)) := by
  have e : ∀ l : List (List Nat), (l.map fun q => D.str (S q)) = (l.map S).map D.str := fun l => by rw [List.map_map]; rfl
  rw [e, e, eqD_lstS _ _ (fun s hs => by obtain ⟨p, h, rfl⟩ := List.mem_map.mp hs; rw [strOk_S]; exact hp p h) (fun s hs => by obtain ⟨p, h, rfl⟩ := List.mem_map.mp hs; rw [strOk_S]; exact hq p h)]
  have inj : ps.map S = qs.map S ↔ ps = qs := by
    constructor
    · intro h
      have := congrArg (List.map fun z : Str => z.cps.toList) h
      rw [List.map_map, List.map_map] at this
      have id1 : ((fun z : Str => z.cps.toList) ∘ S) = id := by funext p; simp
      rw [id1, List.map_id, List.map_id] at this
      exact this
    · intro h; rw [h]
  by_cases h : ps = qs
  · simp [h]
  · have : ¬ ps.map S = qs.map S := fun z => h (inj.mp z)
    simp [h, this]
/-- what is read -/
def readR (t : List Nat) : Sum Int (List Int) := match found ((splitL 10 t).headD []) with
  | none => .inl 1
  | some r => if 9 < r.length then .inl 1 else if 1 < (splitL 10 t).length then .inl 2 else .inr r
def readD : Sum Int (List Int) → M D
  | .inl i => fun m => .exc "BadText" [("line", .int i)] m
  | .inr r => ret (.tup (r.map .int))
end K89
end
section
set_option Elab.async false
set_option linter.all false
set_option maxRecDepth 100000
set_option maxHeartbeats 2000000
/-! K89: row_of_text. -/
namespace K89
open PySem L2 Ev Pg
variable {fe : FE}
theorem sRaise_at (C : Str) (n : Nat) (ns : List Str) (ix : List Nat) (fs : Exs) (env : Ev.Env) (m : Mem) : sRaise C n ns ix fs env m = (fs env m).bind (raiseM C n ns ix) := rfl
/-- the words of a line, read -/
def bTail : Ss :=
  (sSeq (sIf (eOr (eCmp .is (wVar 3) (eCon .non)) (eCmp .gt (eBlt .len (esCons (wVar 3) esNil)) (eCon (.int 9))))
    (sSeq (sRaise "BadText" 1 ["line"] [0] (esCons (eCon (.int 1)) esNil))
    sNil)
    sNil)
  (sSeq (sIf (eCmp .gt (eBlt .len (esCons (wVar 1) esNil)) (eCon (.int 1)))
    (sSeq (sRaise "BadText" 1 ["line"] [0] (esCons (eCon (.int 2)) esNil))
    sNil)
    sNil)
  (sSeq (sRet (eVar 3))
  sNil)))
def bMid (fe : FE) : Ss := sIf (eCmp .eq (wVar 2) (eLst (esCons (eCon (.str ("row" : PySem.Str))) esNil)))
    (sSeq (sSet 3 (eTup esNil))
    sNil)
    (sSeq (sSet 3 (eIfe (eAnd (eCmp .eq (eBlt .len (esCons (wVar 2) esNil)) (eCon (.int 2))) (eAnd (eCmp .eq (eIdx (wVar 2) (eCon (.int 0))) (eCon (.str ("row" : PySem.Str)))) (eCmp .ne (eIdx (wVar 2) (eCon (.int 1))) (eCon (.str ("" : PySem.Str)))))) (eCall 1 (F_signs_of_marks fe) (esCons (eIdx (wVar 2) (eCon (.int 1))) esNil)) (eCon .non)))
    sNil)
theorem body_eq : b_row_of_text fe = sSeq (sIf (eNot (eIsi fe .str (wVar 0)))
    (sSeq (sRaise "BadText" 1 ["line"] [0] (esCons (eCon (.int 0)) esNil))
    sNil)
    sNil)
  (sSeq (sSet 1 (eMeth .split (eVar 0) (esCons (eCon (.str ("\n" : PySem.Str))) esNil)))
  (sSeq (sSet 2 (eMeth .split (eIdx (wVar 1) (eCon (.int 0))) (esCons (eCon (.str (" " : PySem.Str))) esNil)))
  (sSeq (bMid fe) bTail))) := rfl
def foundD : Option (List Int) → D
  | none => .non
  | some r => .tup (r.map .int)
theorem tail_none (x y z : Sl) (m : Mem) : bTail [x, y, z, .val .non] m = .exc "BadText" [("line", .int 1)] m := rfl
theorem tail_some (x z : Sl) (ls : List D) (r : List Int) (m : Mem) : bTail [x, .val (.lst ls), z, .val (.tup (r.map .int))] m = (if 9 < r.length then .exc "BadText" [("line", .int 1)] m else if 1 < ls.length then .exc "BadText" [("line", .int 2)] m else .ok (.ret (.tup (r.map .int))) m) := by
  by_cases h : 9 < r.length
  · have h' : (9 : Int) < r.length := by omega
    simp [bTail, d2, dn, derefs, deref, bltD, cmpD, h, h', sRaise_at, raiseM, permL]
  · have h' : ¬ (9 : Int) < r.length := by omega
    by_cases q : 1 < ls.length
    · have q' : (1 : Int) < ls.length := by omega
      simp [bTail, d2, dn, derefs, deref, bltD, cmpD, h, h', q, q', sRaise_at, raiseM, permL]
    · have q' : ¬ (1 : Int) < ls.length := by omega
      simp [bTail, d2, dn, derefs, deref, bltD, cmpD, h, h', q, q', sRaise_at, raiseM, permL]
theorem mid_words (x y : Sl) (l : List Nat) (hl : l.length ≤ line) (hk : ok l = true) (m : Mem) : bMid fe [x, y, .val (.lst ((splitL 32 l).map fun q => .str (S q))), .no] m = .ok (.nx [x, y, .val (.lst ((splitL 32 l).map fun q => .str (S q))), .val (foundD (found l))]) m := by
  have e1 : eqD (.lst ((splitL 32 l).map fun q => .str (S q))) (.lst [.str "row"]) = some (decide (splitL 32 l = [rowL])) := by
    have := eqD_Ss (ps := splitL 32 l) (qs := [rowL]) (fun p hp => ok_sub hk hp) (fun p hp => by rw [List.mem_singleton] at hp; subst hp; decide)
    rw [s_row]
    exact this
  have le1 : (1 : Nat) ≤ line := by decide
  by_cases h : splitL 32 l = [rowL]
  · rw [h] at e1 ⊢
    have ef : found l = some [] := by unfold found; rw [if_pos h]
    rw [ef]
    simp only [decide_true] at e1
    simp [bMid, d2, deref, cmpD, e1, foundD, le1] at *
    simp [e1]
  · have e1 : eqD (.lst ((splitL 32 l).map fun q => .str (S q))) (.lst [.str "row"]) = some false := by rw [e1]; simp [h]
    have hok : ∀ p ∈ splitL 32 l, ok p = true := fun p hp => ok_sub hk hp
    have hlen : ∀ p ∈ splitL 32 l, p.length ≤ l.length := fun p hp => splitL_len hp
    have ok_row : ok rowL = true := by decide
    have ok_nil : ok [] = true := by decide
    cases w : splitL 32 l with
    | nil => exact absurd w (splitL_ne 32 l)
    | cons p ps =>
      cases ps with
      | nil =>
        have ef : found l = none := by unfold found; rw [if_neg h, w]
        rw [w] at e1
        rw [ef]
        simp only [List.map_cons, List.map_nil] at e1 ⊢
        simp [bMid, d1, d2, dn, derefs, deref, bltD, cmpD, e1, foundD, le1]
      | cons q qs =>
        cases qs with
        | cons a b =>
          have ef : found l = none := by unfold found; rw [if_neg h, w]
          rw [w] at e1
          rw [ef]
          simp only [List.map_cons, List.map_nil] at e1 ⊢
          have nl : ¬ ((b.length : Int) + 1 + 1 + 1 = 2) := by omega
          simp [bMid, d1, d2, dn, derefs, deref, bltD, cmpD, e1, foundD, le1, nl]
        | nil =>
          have hp := hok p (by rw [w]; simp)
          have hq := hok q (by rw [w]; simp)
          have hql : (S q).length ≤ line := by
            have := hlen q (by rw [w]; simp)
            show q.toArray.size ≤ line
            simp
            omega
          have ep : eqD (.str (S p)) (.str "row") = some (decide (p = rowL)) := by rw [s_row]; exact eqD_S hp ok_row
          have eq0 : eqD (.str (S q)) (.str "") = some (decide (q = [])) := by rw [s_none]; exact eqD_S hq ok_nil
          have sg := fun m => signs_of_marks_str (fe := fe) (S q) hql m
          have e2 : (S q).cps.toList = q := by simp
          have ef : found l = if p = rowL ∧ q ≠ [] ∧ q.all valid = true then some (q.map val) else none := by unfold found; rw [if_neg h, w]
          rw [w] at e1
          rw [ef]
          simp only [List.map_cons, List.map_nil] at e1 ⊢
          by_cases h1 : p = rowL
          · by_cases h2 : q = []
            · subst h2
              simp only [decide_true] at eq0
              simp only [h1, decide_true] at ep
              rw [h1] at e1
              simp [bMid, d1, d2, dn, derefs, deref, bltD, cmpD, e1, foundD, le1, idxD, atI, ixN, ep, eq0, h1]
            · simp only [h1, decide_true] at ep
              simp only [h2, decide_false] at eq0
              rw [h1] at e1
              cases hv : q.all valid with
              | true =>
                rw [e2, hv] at sg
                simp [bMid, d1, d2, dn, derefs, deref, bltD, cmpD, e1, foundD, le1, idxD, atI, ixN, ep, eq0, h1, h2, sg, hv]
              | false =>
                rw [e2, hv] at sg
                simp [bMid, d1, d2, dn, derefs, deref, bltD, cmpD, e1, foundD, le1, idxD, atI, ixN, ep, eq0, h1, h2, sg, hv]
          · simp [bMid, d1, d2, dn, derefs, deref, bltD, cmpD, e1, foundD, le1, idxD, atI, ixN, ep, eq0, h1]
theorem row_of_text_str (t : List Nat) (ht : t.length + 2 ≤ line) (hk : ok t = true) (m : Mem) : F_row_of_text fe [.str (S t)] m = readD (readR t) m := by
  cases w : splitL 10 t with
  | nil => exact absurd w (splitL_ne 10 t)
  | cons l ls =>
    have hl : l.length ≤ t.length := splitL_len (c := 10) (by rw [w]; exact List.mem_cons_self)
    have kl : ok l = true := ok_sub (c := 10) hk (by rw [w]; exact List.mem_cons_self)
    have s1 : smD .split (S t) [.str "\n"] = some (.lst ((l :: ls).map fun q => .str (S q))) := by rw [s_nl, smD_split t 10 ht, w]
    have s2 : smD .split (S l) [.str " "] = some (.lst ((splitL 32 l).map fun q => .str (S q))) := by rw [s_sp]; exact smD_split l 32 (by omega)
    have st : ([D.str (S t)].map Sl.val ++ List.replicate (4 - [D.str (S t)].length) Sl.no : List Sl) = [Sl.val (.str (S t)), Sl.no, Sl.no, Sl.no] := rfl
    have is_ : isiD fe.cls fe.sub .str (.str (S t)) = some true := rfl
    have i0 : idxD (.lst ((l :: ls).map fun q => D.str (S q))) (.int 0) = some (.str (S l)) := by
      rw [List.map_cons]
      have n : (0 : Int) < (((ls.map fun q => D.str (S q)).length : Int) + 1) := by omega
      simp [idxD, atI, ixN]
    have mid := mid_words (fe := fe) (.val (.str (S t))) (.val (.lst ((l :: ls).map fun q => D.str (S q)))) l (by omega) kl m
    have go : F_row_of_text fe [.str (S t)] m = ((bTail [.val (.str (S t)), .val (.lst ((l :: ls).map fun q => D.str (S q))), .val (.lst ((splitL 32 l).map fun q => .str (S q))), .val (foundD (found l))] m).bind fun o m => match o with | .nx _ => .ok .non m | .ret d => .ok d m | _ => .bad) := by
      unfold F_row_of_text
      rw [runB_at, body_eq, st]
      simp only [sSeq_at, sIf_at, eNot_at, eIsi_at, wVar_at, List.getElem?_cons_zero, Res.bind_ok, d1, deref, is_, Option.map_some, lift_some, Bool.not_true, sNil_at, sSet_at, eMeth_at, eVar_at, esCons_at, esNil_at, eCon_at, dn, derefs, s1, eIdx_at, List.getElem?_cons_succ, List.set_cons_zero, List.set_cons_succ, List.length_cons, List.length_nil, i0, s2]
      simp only [show (1 < 0 + 1 + 1 + 1 + 1) = True from by simp, show (2 < 0 + 1 + 1 + 1 + 1) = True from by simp, if_true, Res.bind_ok, mid]
      have g1 : ([Sl.val (.str (S t)), Sl.val (.lst ((l :: ls).map fun q => D.str (S q))), Sl.no, Sl.no] : List Sl)[1]? = some (Sl.val (.lst ((l :: ls).map fun q => D.str (S q)))) := rfl
      have g2 : ∀ x y : Sl, ([x, y, Sl.no, Sl.no] : List Sl).length = 4 := fun _ _ => rfl
      have g3 : ∀ x y z : Sl, ([x, y, Sl.no, Sl.no] : List Sl).set 2 z = [x, y, z, Sl.no] := fun _ _ _ => rfl
      simp only [g1, Res.bind_ok, i0, lift_some, s2, g2, g3, show (2 < 4) = True from by simp, if_true, mid]
      all_goals rfl
    rw [go]
    unfold readR
    rw [w]
    have len : (l :: ls).length = ls.length + 1 := rfl
    show _ = readD (match found l with | none => .inl 1 | some r => if 9 < r.length then .inl 1 else if 1 < (l :: ls).length then .inl 2 else .inr r) m
    cases f : found l with
    | none => rfl
    | some r =>
      show (bTail [_, _, _, .val (.tup (r.map .int))] m).bind _ = _
      rw [tail_some, List.length_map]
      by_cases h1 : 9 < r.length
      · simp [h1, readD]
      · by_cases h2 : 1 < (l :: ls).length
        · simp only [if_neg h1, if_pos h2, readD, Res.bind_exc]
        · simp only [if_neg h1, if_neg h2, readD, Res.bind_ok]
end K89
end
section
set_option Elab.async false
set_option linter.all false
set_option maxRecDepth 100000
set_option maxHeartbeats 2000000
/-! K89: what the law expects of a text. -/
namespace K89
open PySem L2 Ev Pg
variable {fe : FE}
theorem lv_marks_eq : F__law_lv_marks fe = F_marks_of fe := rfl
theorem lv_marks_row (r : List Int) (h : Row r) (m : Mem) : F__law_lv_marks fe [.tup (r.map .int)] m = .ok (.str (marks r)) m := by rw [lv_marks_eq]; exact marks_of_row r h m
/-- the number of the line that cannot stand, or -1 and the row; n: how many lines -/
def dueL (l : List Nat) (n : Nat) : Int × Option (List Int) :=
  if l ≠ rowL ∧ (seen l = [] ∨ 9 < (seen l).length ∨ (seen l).all valid = false) then (1, none)
  else if 1 < n then (2, none) else (-1, some ((seen l).map val))
def readL (l : List Nat) (n : Nat) : Sum Int (List Int) := match found l with
  | none => .inl 1
  | some r => if 9 < r.length then .inl 1 else if 1 < n then .inl 2 else .inr r
theorem readR_eq (t : List Nat) : readR t = readL ((splitL 10 t).headD []) (splitL 10 t).length := rfl
theorem seen_row : seen rowL = [] := by decide
/-- the two agree -/
theorem due_read (l : List Nat) (n : Nat) : (∃ r, dueL l n = (-1, some r) ∧ readL l n = .inr r) ∨ ∃ i, dueL l n = (i, none) ∧ readL l n = .inl i ∧ i ≠ -1 := by
  unfold dueL readL
  by_cases h0 : l = rowL
  · subst h0
    rw [if_neg (fun z => z.1 rfl), found_row, seen_row]
    by_cases h3 : 1 < n
    · rw [if_pos h3]; exact .inr ⟨2, rfl, by simp [h3], by decide⟩
    · rw [if_neg h3]; exact .inl ⟨[], rfl, by simp [h3]⟩
  · by_cases h1 : seen l = [] ∨ (seen l).all valid = false
    · rw [if_pos ⟨h0, h1.elim .inl fun z => .inr (.inr z)⟩, found_not h0 h1]
      exact .inr ⟨1, rfl, rfl, by decide⟩
    · have n1 : seen l ≠ [] := fun z => h1 (.inl z)
      have n2 : (seen l).all valid = true := by
        cases q : (seen l).all valid with
        | true => rfl
        | false => exact absurd (.inr q) h1
      rw [found_yes h0 n1 n2]
      by_cases h2 : 9 < (seen l).length
      · rw [if_pos ⟨h0, .inr (.inl h2)⟩]
        exact .inr ⟨1, rfl, by simp [h2], by decide⟩
      · rw [if_neg (fun z => by
          rcases z.2 with z | z | z
          · exact n1 z
          · exact h2 z
          · rw [n2] at z; cases z)]
        by_cases h3 : 1 < n
        · rw [if_pos h3]; exact .inr ⟨2, rfl, by simp [h2, h3], by decide⟩
        · rw [if_neg h3]; exact .inl ⟨_, rfl, by simp [h2, h3]⟩
end K89
end
section
set_option Elab.async false
set_option linter.all false
set_option maxRecDepth 100000
set_option maxHeartbeats 2000000
/-! K89: what the law expects of a text, by its def. -/
namespace K89
open PySem L2 Ev Pg
variable {fe : FE}
theorem S_list' (p : List Nat) : (S p).cps.toList = p := by simp
theorem S_len (p : List Nat) : (S p).length = p.length := by simp [Str.length]
theorem cut_hi (p : List Nat) (k : Nat) : cutS (S p) none (some (k : Int)) = S (p.take k) := by
  unfold cutS
  rw [S_len, HT.sIx_none, HT.sIx_nat, List.drop_zero, Nat.sub_zero, S_list']
  congr 2
  by_cases h : k ≤ p.length
  · rw [Nat.min_eq_left h]
  · rw [Nat.min_eq_right (by omega), List.take_of_length_le (Nat.le_refl _), List.take_of_length_le (by omega)]
theorem cut_lo (p : List Nat) (k : Nat) : cutS (S p) (some (k : Int)) none = S (p.drop k) := by
  unfold cutS
  rw [S_len, HT.sIx_none, HT.sIx_nat, S_list']
  congr 1
  by_cases h : k ≤ p.length
  · rw [Nat.min_eq_left h, List.take_of_length_le (by rw [List.length_drop]; exact Nat.le_refl _)]
  · rw [Nat.min_eq_right (by omega), Nat.sub_self, List.take_zero, List.drop_of_length_le (by omega)]
end K89
end
section
set_option Elab.async false
set_option linter.all false
set_option maxRecDepth 100000
set_option maxHeartbeats 2000000
/-! K89: the def of what is expected. -/
namespace K89
open PySem L2 Ev Pg
variable {fe : FE}
/-- the marks that cannot stand -/
theorem bad_comp (x y : Sl) (w : Str) (hw : w.length ≤ line) (m : Mem) : eComp [2] (.name 2) (iSeq (wVar 1)) (cOne (eCmp .notin (wVar 2) (eCon (.str ("-0+" : PySem.Str))))) (eCon (.int 1)) [x, .val (.str w), y] m = .ok (.lst ((w.cps.toList.filter fun c => !valid c).map fun _ => .int 1)) m := by
  have h1 : compLoop (fun d => bindG (.name 2) d (wipeE [x, .val (.str w), y] [2])) (cOne (eCmp .notin (wVar 2) (eCon (.str "-0+")))) (eCon (.int 1)) (w.cps.toList.map fun c => .str ⟨#[c]⟩) [] m =
      .ok ([] ++ ((w.cps.toList.map fun c => D.str ⟨#[c]⟩).filter fun d => !valid (hd d)).map fun d => .int 1) m := by
    refine compLoop_map (fun d => !valid (hd d)) _ _ _ fun d hd => ?_
    obtain ⟨c, hc, rfl⟩ := List.mem_map.mp hd
    refine ⟨_, rfl, ?_, fun _ => rfl⟩
    have := notin_mark c
    simp [d2, deref, wipeE, this, K89.hd, boolOf]
  have e1 : (((w.cps.toList.map fun c => D.str ⟨#[c]⟩).filter fun d => !valid (hd d)).map fun d => D.int 1) = (w.cps.toList.filter fun c => !valid c).map fun _ => D.int 1 := by
    rw [List.filter_map, List.map_map]
    rfl
  simp only [eComp_at, iSeq_at, wVar_at]
  simp only [List.getElem?_cons_succ, List.getElem?_cons_zero, Res.bind_ok, seq_str w hw, lift_some, slots, List.all_cons, List.all_nil, List.contains_cons, beq_self_eq_true, Bool.true_or, Bool.and_true, guardM_true, bnd_at]
  rw [h1, e1]
  rfl
theorem idx_comp (x y : Sl) (w : Str) (hw : w.length ≤ line) (hv : w.cps.toList.all valid = true) (m : Mem) : eBlt .tuple (esCons (eComp [2] (.name 2) (iSeq (wVar 1)) cYes (eBin .sub (eMeth .sindex (eCon (.str ("-0+" : PySem.Str))) (esCons (wVar 2) esNil)) (eCon (.int 1)))) esNil) [x, .val (.str w), y] m = .ok (.tup ((w.cps.toList.map val).map .int)) m := by
  have h2 : compLoop (fun d => bindG (.name 2) d (wipeE [x, .val (.str w), y] [2])) cYes (eBin .sub (eMeth .sindex (eCon (.str "-0+")) (esCons (wVar 2) esNil)) (eCon (.int 1))) (w.cps.toList.map fun c => .str ⟨#[c]⟩) [] m =
      .ok ([] ++ ((w.cps.toList.map fun c => D.str ⟨#[c]⟩).filter fun _ => true).map fun d => .int (val (hd d))) m := by
    refine compLoop_map (fun _ => true) _ _ _ fun d hd => ?_
    obtain ⟨c, hc, rfl⟩ := List.mem_map.mp hd
    refine ⟨_, rfl, rfl, fun _ => ?_⟩
    obtain ⟨i, e1, e2⟩ := index_mark (List.all_eq_true.mp hv c hc)
    simp [d2, dn, derefs, deref, wipeE, e1, binD, e2, K89.hd]
  have e2 : (((w.cps.toList.map fun c => D.str ⟨#[c]⟩).filter fun _ => true).map fun d => D.int (val (hd d))) = (w.cps.toList.map val).map D.int := by
    rw [List.filter_eq_self.mpr (fun _ _ => rfl), List.map_map, List.map_map]
    rfl
  simp only [eBlt_at, esCons_at, eComp_at, iSeq_at, wVar_at, esNil_at]
  simp only [List.getElem?_cons_succ, List.getElem?_cons_zero, Res.bind_ok, seq_str w hw, lift_some, slots, List.all_cons, List.all_nil, List.contains_cons, beq_self_eq_true, Bool.true_or, Bool.and_true, guardM_true, bnd_at]
  rw [h2, e2]
  simp only [List.nil_append, Res.bind_ok, Ev.ret, dn_lst, blt_tup, lift_some]
end K89
end
section
set_option Elab.async false
set_option linter.all false
set_option maxRecDepth 100000
set_option maxHeartbeats 2000000
/-! K89: the def of what is expected, whole. -/
namespace K89
open PySem L2 Ev Pg
variable {fe : FE}
def dueD : Option (List Int) → D
  | none => .non
  | some r => .tup (r.map .int)
theorem bad_ne (q : List Nat) : cmpD .ne (.lst ((q.filter fun c => !valid c).map fun _ => .int 1)) (.lst []) = some (!q.all valid) := by
  have e : (q.filter fun c => !valid c).map (fun _ => D.int 1) = (((q.filter fun c => !valid c).map fun _ => (1 : Int)).map D.int) := by rw [List.map_map]; rfl
  have p1 : toPy (.lst (((q.filter fun c => !valid c).map fun _ => (1 : Int)).map D.int)) = some (.list (((q.filter fun c => !valid c).map fun _ => (1 : Int)).map PyData.int)) := by rw [toPy, toPys_ints]; rfl
  have sh : ∀ r : List Int, SeqAt.shaped (.list (r.map PyData.int)) = true := fun r => by
    show (PyData.canLay0 (.list _) && decide (PyData.depth (.list _) ≤ 64)) = true
    rw [PyData.canLay0, lay_ints, PyData.depth, depth_ints]
    rfl
  show (eqD _ _).map (!·) = _
  rw [e, eqD_of p1 (y := .list []) rfl (sh _) (sh []), PyData.eqv]
  have := eqvAll_ints ((q.filter fun c => !valid c).map fun _ => (1 : Int)) []
  rw [List.map_nil] at this
  rw [this]
  have k : ((q.filter fun c => !valid c).map fun _ => (1 : Int)) = [] ↔ q.all valid = true := by
    rw [List.map_eq_nil_iff, List.filter_eq_nil_iff, List.all_eq_true]
    constructor
    · intro h c hc
      have := h c hc
      cases v : valid c with
      | true => rfl
      | false => rw [v] at this; exact absurd rfl this
    · intro h c hc
      rw [h c hc]; decide
  by_cases h : q.all valid = true
  · simp [k.mpr h, h]
  · have : ¬ ((q.filter fun c => !valid c).map fun _ => (1 : Int)) = [] := fun z => h (k.mp z)
    simp [this, h]
/-- what the first statement stores: the marks that are seen -/
theorem seen_ex (l : List Nat) (ds : List D) (hl : l.length ≤ line) (hk : ok l = true) (y z : Sl) (m : Mem) : eIfe (eCmp .eq (eSli (eIdx (wVar 0) (eCon (.int 0))) oNone (oSome (eCon (.int 4)))) (eCon (.str ("row " : PySem.Str)))) (eSli (eIdx (wVar 0) (eCon (.int 0))) (oSome (eCon (.int 4))) oNone) (eCon (.str ("" : PySem.Str))) [.val (.lst (.str (S l) :: ds)), y, z] m = .ok (.str (S (seen l))) m := by
  have i0 : idxD (.lst (.str (S l) :: ds)) (.int 0) = some (.str (S l)) := by simp [idxD, atI, ixN]
  have hl' : (S l).length ≤ line := by rw [S_len]; exact hl
  have c1 : sliD (.str (S l)) .non (.int 4) = some (.str (S (l.take 4))) := by
    show (if _ then some (D.str (cutS (S l) none (some ((4 : Nat) : Int)))) else none) = _
    rw [if_pos hl', cut_hi]
  have c2 : sliD (.str (S l)) (.int 4) .non = some (.str (S (l.drop 4))) := by
    show (if _ then some (D.str (cutS (S l) (some ((4 : Nat) : Int)) none)) else none) = _
    rw [if_pos hl', cut_lo]
  have ok4 : ok (l.take 4) = true := List.all_eq_true.mpr fun x hx => List.all_eq_true.mp hk x (List.mem_of_mem_take hx)
  have e : eqD (.str (S (l.take 4))) (.str "row ") = some (decide (l.take 4 = rowL ++ [32])) := by rw [s_row_]; exact eqD_S ok4 (by decide)
  unfold seen
  by_cases h : l.take 4 = rowL ++ [32]
  · rw [if_pos h]
    have e' := e.trans (by rw [decide_eq_true h])
    simp [d1, d2, deref, i0, c1, c2, cmpD, e']
  · rw [if_neg h, ← s_none]
    simp only [h, decide_false] at e
    simp [d1, d2, deref, i0, c1, c2, cmpD, e]
end K89
end
section
set_option Elab.async false
set_option linter.all false
set_option maxRecDepth 100000
set_option maxHeartbeats 2000000
/-! K89: the test of what is expected. -/
namespace K89
open PySem L2 Ev Pg
variable {fe : FE}
theorem test_ex (l s : List Nat) (ds : List D) (hs : s.length ≤ line) (hk : ok l = true) (ks : ok s = true) (z : Sl) (m : Mem) :
    eAnd (eCmp .ne (eIdx (wVar 0) (eCon (.int 0))) (eCon (.str ("row" : PySem.Str)))) (eOr (eCmp .eq (wVar 1) (eCon (.str ("" : PySem.Str)))) (eOr (eCmp .gt (eBlt .len (esCons (wVar 1) esNil)) (eCon (.int 9))) (eCmp .ne (eComp [2] (.name 2) (iSeq (wVar 1)) (cOne (eCmp .notin (wVar 2) (eCon (.str ("-0+" : PySem.Str))))) (eCon (.int 1))) (eLst esNil)))) [.val (.lst (.str (S l) :: ds)), .val (.str (S s)), z] m =
      .ok (.bl (!decide (l = rowL) && (decide (s = []) || (decide (9 < s.length) || !s.all valid)))) m := by
  have i0 : idxD (.lst (.str (S l) :: ds)) (.int 0) = some (.str (S l)) := by simp [idxD, atI, ixN]
  have e1 : eqD (.str (S l)) (.str "row") = some (decide (l = rowL)) := by rw [s_row]; exact eqD_S hk (by decide)
  have e2 : eqD (.str (S s)) (.str "") = some (decide (s = [])) := by rw [s_none]; exact eqD_S ks (by decide)
  have bc := bad_comp (.val (.lst (.str (S l) :: ds))) z (S s) (by rw [S_len]; exact hs) m
  rw [S_list'] at bc
  have bn := bad_ne s
  have hl : (S s).length ≤ line := by rw [S_len]; exact hs
  have le0 : (0 : Nat) ≤ line := Nat.zero_le _
  by_cases h1 : l = rowL
  · have e1' := e1.trans (by rw [decide_eq_true h1])
    rw [decide_eq_true h1]
    clear h1
    simp [d1, d2, deref, i0, cmpD, e1']
  · have e1' := e1.trans (by rw [decide_eq_false h1])
    by_cases h2 : s = []
    · have e2' := e2.trans (by rw [decide_eq_true h2])
      rw [decide_eq_true h2, decide_eq_false h1]
      clear h1 h2
      simp [d1, d2, deref, i0, cmpD, e1', e2']
    · have e2' := e2.trans (by rw [decide_eq_false h2])
      have hl2 : s.toArray.size ≤ line := by simpa using hs
      by_cases h3 : 9 < s.length
      · have h3' : (9 : Int) < s.length := by omega
        simp [d1, d2, dn, derefs, deref, i0, cmpD, e1', e2', h1, h2, bltD, hl, S_len, h3, h3', hs]
      · have h3' : ¬ (9 : Int) < s.length := by omega
        simp [d1, d2, dn, derefs, deref, i0, cmpD, e1', e2', h1, h2, bltD, hl, S_len, h3, h3', hs, bc]
        cases q : s.all valid <;> simp [q] at bn ⊢ <;> simp [cmpD] at bn <;> simp [bn]
end K89
end
section
set_option Elab.async false
set_option linter.all false
set_option maxRecDepth 100000
set_option maxHeartbeats 2000000
/-! K89: the def of what is expected, its value. -/
namespace K89
open PySem L2 Ev Pg
variable {fe : FE}
theorem law_due (l : List Nat) (ls : List (List Nat)) (hl : l.length ≤ line) (hk : ok l = true) (m : Mem) :
    F__law_k89_due fe [.lst ((l :: ls).map fun q => .str (S q))] m = .ok (.tup [.int (dueL l (ls.length + 1)).1, dueD (dueL l (ls.length + 1)).2]) m := by
  have sub : ∀ x ∈ seen l, x ∈ l := fun x hx => by
    unfold seen at hx
    split at hx
    · exact List.mem_of_mem_drop hx
    · cases hx
  have ks : ok (seen l) = true := List.all_eq_true.mpr fun x hx => List.all_eq_true.mp hk x (sub x hx)
  have hs : (seen l).length ≤ line := by
    unfold seen
    split
    · rw [List.length_drop]; omega
    · exact Nat.zero_le _
  have s1 := seen_ex l (ls.map fun q => .str (S q)) hl hk .no .no m
  have t1 := test_ex l (seen l) (ls.map fun q => .str (S q)) hs hk ks .no m
  have st : ([D.lst ((l :: ls).map fun q => .str (S q))].map Sl.val ++ List.replicate (3 - 1) Sl.no : List Sl) = [Sl.val (.lst (.str (S l) :: ls.map fun q => .str (S q))), Sl.no, Sl.no] := rfl
  unfold F__law_k89_due
  rw [runB_at]
  show ((b__law_k89_due fe [Sl.val (.lst (.str (S l) :: ls.map fun q => .str (S q))), Sl.no, Sl.no] m).bind _) = _
  unfold b__law_k89_due
  rw [sSeq_at, sSet_at, s1]
  show ((sSeq _ _ [Sl.val (.lst (.str (S l) :: ls.map fun q => .str (S q))), Sl.val (.str (S (seen l))), Sl.no] m).bind _) = _
  rw [sSeq_at, sIf_at, t1]
  unfold dueL
  by_cases h : l ≠ rowL ∧ (seen l = [] ∨ 9 < (seen l).length ∨ (seen l).all valid = false)
  · have hb : (!decide (l = rowL) && (decide (seen l = []) || (decide (9 < (seen l).length) || !(seen l).all valid))) = true := by
      obtain ⟨h1, h2⟩ := h
      rcases h2 with h2 | h2 | h2 <;> simp [h1, h2]
    rw [hb, if_pos h]
    rfl
  · have hv : (seen l).all valid = true := by
      by_cases h0 : l = rowL
      · subst h0; rw [seen_row]; rfl
      · cases q : (seen l).all valid with
        | true => rfl
        | false => exact absurd ⟨h0, .inr (.inr q)⟩ h
    have hb : (!decide (l = rowL) && (decide (seen l = []) || (decide (9 < (seen l).length) || !(seen l).all valid))) = false := by
      rw [hv]
      by_cases h0 : l = rowL
      · simp [h0]
      · have n1 : ¬ seen l = [] := fun z => h ⟨h0, .inl z⟩
        have n2 : ¬ 9 < (seen l).length := fun z => h ⟨h0, .inr (.inl z)⟩
        simp [h0, n1, n2]
    have ic := fun m => idx_comp (.val (.lst (.str (S l) :: ls.map fun q => .str (S q)))) .no (S (seen l)) (by rw [S_len]; exact hs) (by rw [S_list']; exact hv) m
    rw [S_list'] at ic
    have ln : ∀ m, eBlt .len (esCons (wVar 0) esNil) [Sl.val (.lst (.str (S l) :: ls.map fun q => .str (S q))), Sl.val (.str (S (seen l))), Sl.no] m = .ok (.int ((ls.length : Int) + 1)) m := fun m => by
      show Res.ok (D.int ((.str (S l) :: ls.map fun q => D.str (S q)).length)) m = _
      rw [List.length_cons, List.length_map]; rfl
    have le2 : decide (2 ≤ line) = true := by decide
    rw [hb, if_neg h]
    have c1 : ∀ m, d2 (.int ((ls.length : Int) + 1)) (.int 1) (fun x y => (cmpD .gt x y).map D.bl) m = Res.ok (D.bl (decide (1 < ls.length + 1))) m := fun m => by
      show Res.ok (D.bl (decide ((1 : Int) < (ls.length : Int) + 1))) m = _
      congr 2
      exact decide_eq_decide.mpr (by omega)
    simp only [Res.bind_ok, sNil_at, sSeq_at, sRet_at, eIfe_at, eTup_at, esCons_at, esNil_at, eCmp_at, eCon_at, eNeg_at, ln, c1, ic, List.length_cons, List.length_nil]
    by_cases h3 : 1 < ls.length + 1
    · simp only [h3, decide_true, if_true]
      rfl
    · simp only [h3, decide_false, if_false]
      rfl
end K89
end
section
set_option Elab.async false
set_option linter.all false
set_option maxRecDepth 100000
/-! Ev: what a run surely gives (Tot), for simp: the head of what is left is a call. -/
namespace Ev
open PySem L2
/-- the run ends well, and so -/
def Tot {α : Type} (r : Res α) (Q : α → Mem → Prop) : Prop := match r with
  | .ok a m => Q a m
  | _ => False
@[simp] theorem Tot_ok {α : Type} (a : α) (m : Mem) (Q : α → Mem → Prop) : Tot (.ok a m) Q = Q a m := rfl
@[simp] theorem Tot_exc {α : Type} (C fs) (m : Mem) (Q : α → Mem → Prop) : Tot (.exc C fs m) Q = False := rfl
@[simp] theorem Tot_bad {α : Type} (Q : α → Mem → Prop) : Tot (.bad) Q = False := rfl
theorem Tot.imp {α : Type} {r : Res α} {Q Q' : α → Mem → Prop} (h : Tot r Q) (hq : ∀ a m, Q a m → Q' a m) : Tot r Q' := by
  cases r with
  | ok a m => exact hq a m h
  | exc => exact h
  | bad => exact h
theorem Tot.bind {α β : Type} {r : Res α} {f : α → M β} {Q : β → Mem → Prop} (h : Tot r fun a m => Tot (f a m) Q) : Tot (r.bind f) Q := by
  cases r with
  | ok a m => exact h
  | exc => exact h.elim
  | bad => exact h.elim
theorem Tot.ex {α : Type} {r : Res α} {Q : α → Mem → Prop} (h : Tot r Q) : ∃ a m, r = .ok a m ∧ Q a m := by
  cases r with
  | ok a m => exact ⟨a, m, rfl, h⟩
  | exc => exact h.elim
  | bad => exact h.elim
theorem Tot.of {α : Type} {r : Res α} {Q : α → Mem → Prop} {a m} (h : r = .ok a m) (q : Q a m) : Tot r Q := by rw [h]; exact q
@[simp] theorem Res.bind_assoc {α β γ : Type} (r : Res α) (f : α → M β) (g : β → M γ) : (r.bind f).bind g = r.bind fun a m => (f a m).bind g := by cases r <;> rfl
theorem Tot.calm {α : Type} {r : Res α} {Q : α → Mem → Prop} (h : Tot r Q) : Tot r.calm Q := by
  cases r with
  | ok a m => exact h
  | exc => exact h.elim
  | bad => exact h.elim
section
variable (a b c e f i l h : Ex) (fs fk : Exs) (env : Env) (m : Mem) (s s1 s2 : Ss)
@[simp] theorem eCallK_at (perm : List Nat) (np nk n : Nat) (fx : List D → M D) : eCallK perm np nk n fx fs fk env m = (fs env m).bind fun xs m => (fk env m).bind fun ys m => kX perm np nk n fx xs ys m := rfl
@[simp] theorem ePop_at : ePop a i env m = (a env m).bind fun x m => chkL x (bnd (i env) fun y => popM x y) m := rfl
@[simp] theorem eApp_at : eApp a e env m = (a env m).bind fun x m => chkL x (bnd (e env) fun y => appM x y) m := rfl
@[simp] theorem eCaught_at (fe : FE) : eCaught fe a env m = caughtM fe (a env m) := rfl
@[simp] theorem eDis_at (ks : List Key) : eDis ks fs env m = (fs env m).bind fun xs m => guardM (decide (xs.length = ks.length ∧ ks.length ≤ 15 ∧ ks.Nodup)) (ret (.dK (ks.zip xs))) m := rfl
@[simp] theorem sOwn_at (n : Nat) : sOwn n a env m = (a env m).bind fun x m => if n < env.length then .ok (.nx (env.set n (.own x))) m else .bad := by
  unfold sOwn setS
  dsimp only [bnd]
  congr 1; funext x m; split <;> rfl
@[simp] theorem sAsg_at (gt : G) : sAsg gt a env m = (a env m).bind fun x m => match bindG gt x env with | some env => .ok (.nx env) m | none => .bad := by
  unfold sAsg
  dsimp only [bnd]
  congr 1; funext x m
  cases bindG gt x env <;> rfl
@[simp] theorem sPar_at (i j : Nat) : sPar i j fs env m = (fs env m).bind fun xs m => match parS [i, j] xs env with | some env => .ok (.nx env) m | none => .bad := by
  unfold sPar
  dsimp only [bnd]
  congr 1; funext x m
  cases parS [i, j] x env <;> rfl
@[simp] theorem sPutL_at : sPutL a i e env m = (e env m).bind fun z m => (a env m).bind fun x m => (i env m).bind fun y m => putL x y z env m := rfl
@[simp] theorem sPutO_at (j : Nat) : sPutO j i e env m = guardM (ownL env j) (bnd (e env) fun z => bnd (i env) fun y => putO j y z env) m := rfl
@[simp] theorem sApp_at (j : Nat) : sApp j e env m = guardM (ownL env j) (bnd (e env) fun z => appS j z env) m := rfl
@[simp] theorem sRaise_at' (C : Str) (n : Nat) (ns : List Str) (ix : List Nat) : sRaise C n ns ix fs env m = (fs env m).bind (raiseM C n ns ix) := rfl
@[simp] theorem sRetN_at : sRetN env m = .ok (.ret .non) m := rfl
end
/-- a statement, then the rest -/
theorem Tot.seq {s1 s2 : Ss} {env : Env} {m : Mem} {Q : Out → Mem → Prop} (h : Tot (s1 env m) fun o m => match o with
    | .nx e => Tot (s2 e m) Q
    | o => Q o m) : Tot (sSeq s1 s2 env m) Q := by
  rw [sSeq_at]
  refine Tot.bind (h.imp fun o m' ho => ?_)
  cases o <;> exact ho
theorem Tot.run {n : Nat} {s : Ss} {args : List D} {m : Mem} {Q : D → Mem → Prop} (h : Tot (s (args.map Sl.val ++ List.replicate (n - args.length) Sl.no) m) fun o m => match o with
    | .nx _ => Q .non m
    | .ret d => Q d m
    | _ => False) : Tot (runB n s args m) Q := by
  rw [runB_at]
  refine Tot.bind (h.imp fun o m' ho => ?_)
  cases o <;> exact ho
/-- a loop by an invariant over what is done -/
theorem Tot.for {b : D → Env → Option Env} {body : Env → M Out} {Q : Out → Mem → Prop} (I : List D → Env → Mem → Prop) : ∀ (ds dn : List D) (env : Env) (m : Mem), I dn env m →
    (∀ dn' d r env m, dn ++ ds = dn' ++ d :: r → I dn' env m → ∃ env1, b d env = some env1 ∧ Tot (body env1 m) fun o m' => match o with
      | .nx e => I (dn' ++ [d]) e m'
      | .ct e => I (dn' ++ [d]) e m'
      | .bk e => Q (.nx e) m'
      | .ret x => Q (.ret x) m') →
    (∀ env m, I (dn ++ ds) env m → Q (.nx env) m) → Tot (forLoop b body ds env m) Q
  | [], dn, env, m, h0, _, he => by rw [forLoop]; rw [List.append_nil] at he; exact he env m h0
  | d :: ds, dn, env, m, h0, hs, he => by
    obtain ⟨env1, e1, h1⟩ := hs dn d ds env m rfl h0
    rw [forLoop, e1]
    refine Tot.bind (h1.imp fun o m' ho => ?_)
    have go : ∀ e, I (dn ++ [d]) e m' → Tot (forLoop b body ds e m') Q := fun e hI => Tot.for I ds (dn ++ [d]) e m' hI (fun dn' d' r env m q => hs dn' d' r env m (by rw [← q]; simp)) (fun env m z => he env m (by simpa using z))
    cases o with
    | nx e => exact go e ho
    | ct e => exact go e ho
    | bk e => exact ho
    | ret x => exact ho
/-- a loop whose turns all go on, and keep a word -/
theorem Tot.forI {b : D → Env → Option Env} {body : Env → M Out} {Q : Out → Mem → Prop} {ds : List D} {env : Env} {m : Mem} (I : Env → Mem → Prop) (h0 : I env m)
    (hs : ∀ d ∈ ds, ∀ env m, I env m → ∃ env1, b d env = some env1 ∧ Tot (body env1 m) fun o m' => ∃ e, o = .nx e ∧ I e m') (he : ∀ env m, I env m → Q (.nx env) m) : Tot (forLoop b body ds env m) Q :=
  Tot.for (fun _ => I) ds [] env m h0 (fun dn d r env m e h => by
    obtain ⟨env1, e1, h1⟩ := hs d (by rw [List.nil_append] at e; rw [e]; simp) env m h
    refine ⟨env1, e1, h1.imp fun o m' ⟨e, ho, hI⟩ => ?_⟩
    rw [ho]; exact hI) he
/-- a comprehension over typed values that leaves the memory -/
theorem comp_map {α : Type} {b : D → Option Env} {c : Env → M Bool} {e : Env → M D} {m : Mem} (enc : α → D) (p : α → Bool) (g : α → D) : ∀ (xs : List α) (acc : List D), (∀ x ∈ xs, ∃ env, b (enc x) = some env ∧ c env m = .ok (p x) m ∧ (p x = true → e env m = .ok (g x) m)) →
    compLoop b c e (xs.map enc) acc m = .ok (acc ++ (xs.filter p).map g) m
  | [], acc, _ => by rw [List.map_nil, compLoop]; simp
  | d :: ds, acc, h => by
    obtain ⟨env, h1, h2, h3⟩ := h d List.mem_cons_self
    rw [List.map_cons, compLoop, h1]
    show ((c env m).calm.bind _) = _
    rw [h2]
    cases q : p d with
    | false =>
      show compLoop b c e (ds.map enc) acc m = _
      rw [comp_map enc p g ds acc fun d hd => h d (List.mem_cons_of_mem _ hd), List.filter_cons_of_neg (by rw [q]; exact Bool.false_ne_true)]
    | true =>
      show ((e env m).calm.bind _) = _
      rw [h3 q]
      show compLoop b c e (ds.map enc) (acc ++ [g d]) m = _
      rw [comp_map enc p g ds _ fun d hd => h d (List.mem_cons_of_mem _ hd), List.filter_cons_of_pos q, List.map_cons, List.append_assoc]
      rfl
/-- a comprehension that changes the memory -/
theorem Tot.comp {b : D → Option Env} {e : Env → M D} {Q : List D → Mem → Prop} (I : Mem → Prop) (P : D → Prop) : ∀ (ds acc : List D) (m : Mem), I m → (∀ d ∈ ds, ∀ m, I m → ∃ env, b d = some env ∧ Tot (e env m) fun v m' => I m' ∧ P v) →
    (∀ vs m', I m' → vs.length = ds.length → (∀ v ∈ vs, P v) → Q (acc ++ vs) m') → Tot (compLoop b cYes e ds acc m) Q := fun ds acc m h0 hs hq => by
  obtain ⟨vs, m', e1, e2, e3, e4⟩ := compLoop_inv (b := b) (e := e) (I := I) (P := P) ds acc m h0 fun d hd m hm => by
    obtain ⟨env, q1, q2⟩ := hs d hd m hm
    obtain ⟨v, m', q3, q4, q5⟩ := q2.ex
    exact ⟨env, v, m', q1, q3, q4, q5⟩
  exact .of e1 (hq vs m' e2 e3 e4)
end Ev
end
section
set_option Elab.async false
set_option linter.all false
set_option maxRecDepth 100000
/-! Ev: the operators at known shapes, for simp. -/
namespace Ev
open PySem L2
section
variable (m : Mem) (i j : Int) (s t : Str) (xs ys : List D) (a b : D)
@[simp] theorem deref_non : deref m .non = some .non := rfl
@[simp] theorem deref_bl (k : Bool) : deref m (.bl k) = some (.bl k) := rfl
@[simp] theorem deref_int : deref m (.int i) = some (.int i) := rfl
@[simp] theorem deref_str : deref m (.str s) = some (.str s) := rfl
@[simp] theorem deref_tup : deref m (.tup xs) = some (.tup xs) := rfl
@[simp] theorem deref_lst : deref m (.lst xs) = some (.lst xs) := rfl
@[simp] theorem deref_frz : deref m (.frz xs) = some (.frz xs) := rfl
@[simp] theorem deref_dK (kvs) : deref m (.dK kvs) = some (.dK kvs) := rfl
@[simp] theorem deref_dT (kvs) : deref m (.dT kvs) = some (.dT kvs) := rfl
@[simp] theorem deref_ins (C fs) : deref m (.ins C fs) = some (.ins C fs) := rfl
@[simp] theorem deref_exc (C fs) : deref m (.exc C fs) = some (.exc C fs) := rfl
@[simp] theorem deref_fn (x) : deref m (.fn x) = some (.fn x) := rfl
theorem d1_of {α : Type} {x x' : D} {m : Mem} (k : D → Option α) (h : deref m x = some x') : d1 x k m = lift (k x') m := by unfold d1; rw [h]
theorem d2_of {α : Type} {x x' y y' : D} {m : Mem} (k : D → D → Option α) (h : deref m x = some x') (h2 : deref m y = some y') : d2 x y k m = lift (k x' y') m := by unfold d2; rw [h, h2]
@[simp] theorem d1_at {α : Type} (x : D) (k : D → Option α) : d1 x k m = match deref m x with | some x => lift (k x) m | none => .bad := rfl
@[simp] theorem d2_at {α : Type} (x y : D) (k : D → D → Option α) : d2 x y k m = match deref m x, deref m y with | some x, some y => lift (k x y) m | _, _ => .bad := rfl
@[simp] theorem dn_at {α : Type} (k : List D → Option α) : dn xs k m = match derefs m xs with | some xs => lift (k xs) m | none => .bad := rfl
@[simp] theorem derefs_nil : derefs m [] = some [] := rfl
@[simp] theorem derefs_cons : derefs m (a :: xs) = match deref m a, derefs m xs with | some x, some xs => some (x :: xs) | _, _ => none := rfl
-- operators
@[simp] theorem bin_add : binD .add (.int i) (.int j) = some (.int (i + j)) := rfl
@[simp] theorem bin_sub : binD .sub (.int i) (.int j) = some (.int (i - j)) := rfl
@[simp] theorem bin_mul : binD .mul (.int i) (.int j) = if mulOk i j then some (.int (i * j)) else none := rfl
@[simp] theorem bin_mod : binD .mod (.int i) (.int j) = if j = 0 then none else some (.int (i.fmod j)) := rfl
@[simp] theorem bin_fdiv : binD .fdiv (.int i) (.int j) = if j ≠ 0 ∧ j.natAbs < 1073741824 then some (.int (i.fdiv j)) else none := rfl
@[simp] theorem bin_pow : binD .pow (.int i) (.int j) = if 0 ≤ j ∧ j ≤ 1000000 ∧ i.natAbs < 2 ^ 64 then some (.int (i ^ j.toNat)) else none := rfl
@[simp] theorem bin_adds : binD .add (.str s) (.str t) = if s.length + t.length ≤ line then some (.str (s ++ t)) else none := rfl
@[simp] theorem bin_addt : binD .add (.tup xs) (.tup ys) = if xs.length + ys.length ≤ line then some (.tup (xs ++ ys)) else none := rfl
@[simp] theorem bin_addl : binD .add (.lst xs) (.lst ys) = if xs.length + ys.length ≤ line then some (.lst (xs ++ ys)) else none := rfl
@[simp] theorem cmp_eq : cmpD .eq a b = eqD a b := rfl
@[simp] theorem cmp_ne : cmpD .ne a b = (eqD a b).map (!·) := rfl
@[simp] theorem cmp_lt : cmpD .lt (.int i) (.int j) = some (decide (i < j)) := rfl
@[simp] theorem cmp_le : cmpD .le (.int i) (.int j) = some (decide (i ≤ j)) := rfl
@[simp] theorem cmp_gt : cmpD .gt (.int i) (.int j) = some (decide (j < i)) := rfl
@[simp] theorem cmp_ge : cmpD .ge (.int i) (.int j) = some (decide (j ≤ i)) := rfl
@[simp] theorem cmp_isnon : cmpD .is .non .non = some true := rfl
@[simp] theorem cmp_isint : cmpD .is (.int i) .non = some false := rfl
@[simp] theorem cmp_istup : cmpD .is (.tup xs) .non = some false := rfl
@[simp] theorem cmp_islst : cmpD .is (.lst xs) .non = some false := rfl
@[simp] theorem cmp_isexc (C fs) : cmpD .is (.exc C fs) .non = some false := rfl
@[simp] theorem cmp_isnnon : cmpD .isnot .non .non = some false := rfl
@[simp] theorem cmp_isnint : cmpD .isnot (.int i) .non = some true := rfl
@[simp] theorem cmp_isntup : cmpD .isnot (.tup xs) .non = some true := rfl
@[simp] theorem cmp_isnlst : cmpD .isnot (.lst xs) .non = some true := rfl
@[simp] theorem cmp_isnexc (C fs) : cmpD .isnot (.exc C fs) .non = some true := rfl
@[simp] theorem idx_tup : idxD (.tup xs) (.int i) = atI xs i := rfl
@[simp] theorem idx_lst : idxD (.lst xs) (.int i) = atI xs i := rfl
@[simp] theorem idx_dK (kvs) : idxD (.dK kvs) a = (keyOf a).bind fun k => getK kvs k := rfl
@[simp] theorem keyOf_int : keyOf (.int i) = some (.inl i) := rfl
@[simp] theorem keyOf_str : keyOf (.str s) = some (.inr s) := rfl
@[simp] theorem blt_len_s : bltD .len [.str s] = if s.length ≤ line then some (.int s.length) else none := rfl
@[simp] theorem blt_len_t : bltD .len [.tup xs] = some (.int xs.length) := rfl
@[simp] theorem blt_len_l : bltD .len [.lst xs] = some (.int xs.length) := rfl
@[simp] theorem blt_len_f : bltD .len [.frz xs] = some (.int xs.length) := rfl
@[simp] theorem blt_tup_t : bltD .tuple [.tup xs] = some (.tup xs) := rfl
@[simp] theorem blt_tup_l : bltD .tuple [.lst xs] = some (.tup xs) := rfl
@[simp] theorem blt_lst_t : bltD .list [.tup xs] = some (.lst xs) := rfl
@[simp] theorem blt_lst_l : bltD .list [.lst xs] = some (.lst xs) := rfl
@[simp] theorem blt_abs : bltD .abs [.int i] = some (.int (if i < 0 then -i else i)) := rfl
@[simp] theorem blt_int : bltD .int [.int i] = some (.int i) := rfl
@[simp] theorem blt_int_b (k : Bool) : bltD .int [.bl k] = some (.int (if k then 1 else 0)) := rfl
@[simp] theorem blt_max : bltD .max [.int i, .int j] = some (.int (if j > i then j else i)) := rfl
@[simp] theorem blt_min : bltD .min [.int i, .int j] = some (.int (if j < i then j else i)) := rfl
@[simp] theorem seq_lst : seqOf (.lst xs) = some xs := rfl
@[simp] theorem seq_tup : seqOf (.tup xs) = some xs := rfl
@[simp] theorem seq_frz : seqOf (.frz xs) = some xs := rfl
@[simp] theorem bindG_name (n : Nat) (env : Env) : bindG (.name n) a env = if n < env.length then some (env.set n (.val a)) else none := rfl
@[simp] theorem bindG_tup (gs : List G) (env : Env) : bindG (.tup gs) (.tup xs) env = bindGs gs xs env := rfl
@[simp] theorem bindGs_nil (env : Env) : bindGs [] [] env = some env := rfl
@[simp] theorem bindGs_cons (g : G) (gs : List G) (env : Env) : bindGs (g :: gs) (a :: xs) env = (bindG g a env).bind fun env => bindGs gs xs env := rfl
@[simp] theorem parS_nil (env : Env) : parS [] [] env = some env := rfl
@[simp] theorem parS_cons (n : Nat) (ns : List Nat) (env : Env) : parS (n :: ns) (a :: xs) env = if n < env.length then parS ns xs (env.set n (.val a)) else none := rfl
@[simp] theorem lift_map {α β : Type} (o : Option α) (f : α → β) : lift (o.map f) m = (lift o m).bind fun a m => .ok (f a) m := by cases o <;> rfl
@[simp] theorem wipeE_nil (env : Env) : wipeE env [] = env := rfl
@[simp] theorem wipeE_cons (env : Env) (n : Nat) (ns : List Nat) : wipeE env (n :: ns) = (wipeE env ns).set n .no := rfl
@[simp] theorem guardM_decide {α : Type} (p : Prop) [Decidable p] (x : M α) : guardM (decide p) x m = if p then x m else .bad := by
  unfold guardM
  by_cases h : p <;> simp [h]
end
@[simp] theorem le_line {n : Nat} (h : n ≤ 1000) : (n ≤ line) = True := eq_true (Nat.le_trans h (by decide))
@[simp] theorem lt_line {n : Nat} (h : n ≤ 1000) : (n < line) = True := eq_true (Nat.lt_of_le_of_lt h (by decide))
@[simp] theorem putL_at (x y z : D) (env : Env) (m : Mem) : putL x y z env m = match putM x y z m with | some m => .ok (.nx env) m | none => .bad := rfl
/-- a loop, folded -/
def forG (gt : G) (b : Ss) (ds : List D) : Env → M Out := forLoop (fun d env => bindG gt d env) b ds
@[simp] theorem sFor_at' (gt : G) (it : Exs) (b : Ss) (env : Env) (m : Mem) : sFor gt it b env m = (it env m).bind fun ds m => forG gt b ds env m := rfl
theorem Tot.forG {gt : G} {body : Ss} {Q : Out → Mem → Prop} {ds : List D} {env : Env} {m : Mem} (I : List D → Env → Mem → Prop) (h0 : I [] env m)
    (hs : ∀ dn d r env m, ds = dn ++ d :: r → I dn env m → ∃ env1, bindG gt d env = some env1 ∧ Tot (body env1 m) fun o m' => match o with
      | .nx e => I (dn ++ [d]) e m'
      | .ct e => I (dn ++ [d]) e m'
      | .bk e => Q (.nx e) m'
      | .ret x => Q (.ret x) m')
    (he : ∀ env m, I ds env m → Q (.nx env) m) : Tot (Ev.forG gt body ds env m) Q := Tot.for I ds [] env m h0 hs he
theorem Tot.forGI {gt : G} {body : Ss} {Q : Out → Mem → Prop} {ds : List D} {env : Env} {m : Mem} (I : Env → Mem → Prop) (h0 : I env m)
    (hs : ∀ d ∈ ds, ∀ env m, I env m → ∃ env1, bindG gt d env = some env1 ∧ Tot (body env1 m) fun o m' => ∃ e, o = .nx e ∧ I e m') (he : ∀ env m, I env m → Q (.nx env) m) : Tot (Ev.forG gt body ds env m) Q := Tot.forI I h0 hs he
/-- a comprehension, folded -/
def compG (ow : List Nat) (gt : G) (c : Env → M Bool) (e : Ex) (ds : List D) : Env → M D := fun env => guardM ((slots gt).all fun i => ow.contains i) (bnd (compLoop (fun d => bindG gt d (wipeE env ow)) c e ds []) fun xs => ret (.lst xs))
@[simp] theorem eComp_at' (ow : List Nat) (gt : G) (it : Exs) (c : Env → M Bool) (e : Ex) (env : Env) (m : Mem) : eComp ow gt it c e env m = (it env m).bind fun ds m => compG ow gt c e ds env m := rfl
/-- what it gives, the memory left alone -/
theorem compG_map {α : Type} {ow : List Nat} {gt : G} {c : Env → M Bool} {e : Ex} {env : Env} {m : Mem} (enc : α → D) (p : α → Bool) (g : α → D) (xs : List α) (hg : ((slots gt).all fun i => ow.contains i) = true)
    (h : ∀ x ∈ xs, ∃ env1, bindG gt (enc x) (wipeE env ow) = some env1 ∧ c env1 m = .ok (p x) m ∧ (p x = true → e env1 m = .ok (g x) m)) : compG ow gt c e (xs.map enc) env m = .ok (.lst ((xs.filter p).map g)) m := by
  unfold compG
  rw [hg, guardM_true, bnd_at, comp_map enc p g xs [] h]
  rfl
theorem compG_all {α : Type} {ow : List Nat} {gt : G} {e : Ex} {env : Env} {m : Mem} (enc : α → D) (g : α → D) (xs : List α) (hg : ((slots gt).all fun i => ow.contains i) = true)
    (h : ∀ x ∈ xs, ∃ env1, bindG gt (enc x) (wipeE env ow) = some env1 ∧ e env1 m = .ok (g x) m) : compG ow gt cYes e (xs.map enc) env m = .ok (.lst (xs.map g)) m := by
  have := compG_map (c := cYes) enc (fun _ => true) g xs hg (fun x hx => by obtain ⟨e1, h1, h2⟩ := h x hx; exact ⟨e1, h1, rfl, fun _ => h2⟩)
  rwa [List.filter_eq_self.mpr (fun _ _ => rfl)] at this
theorem Tot.compG {ow : List Nat} {gt : G} {e : Ex} {env : Env} {m : Mem} {ds : List D} {Q : D → Mem → Prop} (I : Mem → Prop) (P : D → Prop) (hg : ((slots gt).all fun i => ow.contains i) = true) (h0 : I m)
    (hs : ∀ d ∈ ds, ∀ m, I m → ∃ env1, bindG gt d (wipeE env ow) = some env1 ∧ Tot (e env1 m) fun v m' => I m' ∧ P v) (hq : ∀ vs m', I m' → vs.length = ds.length → (∀ v ∈ vs, P v) → Q (.lst vs) m') : Tot (Ev.compG ow gt cYes e ds env m) Q := by
  unfold Ev.compG
  rw [hg, guardM_true, bnd_at]
  exact Tot.bind (Tot.comp I P ds [] m h0 hs fun vs m' h1 h2 h3 => hq vs m' h1 h2 h3)
theorem toPy_lstI (r : List Int) : toPy (.lst (r.map D.int)) = some (.list (r.map PyData.int)) := by rw [toPy, toPys_ints]; rfl
theorem shaped_lstI (r : List Int) : SeqAt.shaped (.list (r.map PyData.int)) = true := by
  show (PyData.canLay0 (.list _) && decide (PyData.depth (.list _) ≤ 64)) = true
  rw [PyData.canLay0, lay_ints, PyData.depth, depth_ints]
  rfl
theorem eqD_lstI (r q : List Int) : eqD (.lst (r.map D.int)) (.lst (q.map D.int)) = some (decide (r = q)) := by
  rw [eqD_of (toPy_lstI r) (toPy_lstI q) (shaped_lstI r) (shaped_lstI q), PyData.eqv, eqvAll_ints]
@[simp] theorem eqD_nil : eqD (.lst []) (.lst []) = some true := rfl
@[simp] theorem eqD_nilt : eqD (.tup []) (.tup []) = some true := rfl
@[simp] theorem eqD_consI (g : Int) (gs : List Int) : eqD (.lst (.int g :: gs.map .int)) (.lst []) = some false := by
  have := eqD_lstI (g :: gs) []
  simpa using this
@[simp] theorem eqD_constI (g : Int) (gs : List Int) : eqD (.tup (.int g :: gs.map .int)) (.tup []) = some false := by
  have := eqD_tupI (g :: gs) []
  simpa using this
def rngM (x : D) : M (List D) := fun m => match x with | .int j => guardM (decide (j ≤ line ∧ -(2 ^ 62) ≤ j)) (ret (rangeD 0 j.toNat)) m | _ => .bad
@[simp] theorem iRng1_at' (a : Ex) (env : Env) (m : Mem) : iRng1 a env m = (a env m).bind fun x m => rngM x m := iRng1_at env m a
@[simp] theorem rngM_int {i : Int} (h0 : 0 ≤ i) (h1 : i ≤ 1000) (m : Mem) : rngM (.int i) m = .ok (rangeD 0 i.toNat) m := by
  show guardM _ _ m = _
  rw [decide_eq_true (by unfold line; omega)]
  rfl
theorem rangeD_len (lo : Int) (n : Nat) : (rangeD lo n).length = n := by rw [rangeD, List.length_map, List.length_range]
theorem atI_nat {xs : List D} {k : Nat} {x : D} (h : xs[k]? = some x) : atI xs (k : Int) = some x := by
  have hk : k < xs.length := (List.getElem?_eq_some_iff.mp h).1
  unfold atI ixN
  rw [if_pos (Int.natCast_nonneg k), if_pos (by omega)]
  exact h
end Ev
end
section
set_option Elab.async false
set_option linter.all false
set_option maxRecDepth 100000
set_option maxHeartbeats 2000000
/-! The draws: what comes out is any number below the size. -/
namespace Pg
open PySem L2 Ev
variable {fe : FE}
def kGreat : Key := .inr ("great" : PySem.Str)
def kCells : Key := .inr ("cells" : PySem.Str)
def kLeft : Key := .inr ("left" : PySem.Str)
def kTurn : Key := .inr ("turn" : PySem.Str)
/-- the state of the draws -/
def drD (cs : List Int) (L T : Int) : MO := .dK [(kGreat, .loc 0), (kCells, .lst (cs.map .int)), (kLeft, .int L), (kTurn, .int T)]
def drM (gs cs : List Int) (L T : Int) (rest : Mem) : Mem := .lst (gs.map .int) :: drD cs L T :: rest
structure Dr (rest m : Mem) : Prop where
  ex : ∃ gs cs L T, m = drM gs cs L T rest ∧ cs ≠ [] ∧ (∀ g ∈ gs, 0 ≤ g) ∧ gs.length ≤ 100 ∧ 0 ≤ L ∧ 0 ≤ T
theorem mulOk_left {i j : Int} (h : i.natAbs < 2 ^ 64) : mulOk i j = true := by unfold mulOk; simp [h]
theorem mulOk_right {i j : Int} (h : j.natAbs < 2 ^ 64) : mulOk i j = true := by unfold mulOk; simp [h]
theorem fmod_range {a n : Int} (hn : 0 < n) : 0 ≤ a.fmod n ∧ a.fmod n < n := ⟨Int.fmod_nonneg_of_pos a hn, Int.fmod_lt_of_pos a hn⟩
theorem cell_step (blend cell turn p : Int) (hb : 0 ≤ blend ∧ blend < 2 ^ 40) (hp : 0 < p) : True := trivial
/-- the inner loop of the blend -/
def bCell : Ss := sSeq (sSet 4 (eBin .mod (eBlt .int (esCons (eBin .add (eBin .add (eBin .mul (wVar 4) (eCon (.int 69621))) (wVar 5)) (wVar 1)) esNil)) (wVar 3))) sNil
theorem cells_loop {st : Sl} {T found p : Int} (hp : 0 < p ∧ p < 2147483648) {cs : List Int} (hc : cs ≠ []) {blend : Int} {x : Sl} {m : Mem} {Q : Out → Mem → Prop}
    (hq : ∀ (b' : Int) (x' : Sl), b'.natAbs < 2 ^ 62 → Q (.nx [st, .val (.int T), .val (.int found), .val (.int p), .val (.int b'), x']) m) :
    Tot (forG (.name 5) bCell (cs.map .int) [st, .val (.int T), .val (.int found), .val (.int p), .val (.int blend), x] m) Q := by
  refine Tot.forG (fun dn env m' => m' = m ∧ ∃ (b' : Int) (x' : Sl), (dn = [] ∨ b'.natAbs < 2 ^ 62) ∧ env = [st, .val (.int T), .val (.int found), .val (.int p), .val (.int b'), x']) ⟨rfl, blend, x, .inl rfl, rfl⟩ (fun dn d r env m' e ⟨e1, b', x', hb', e2⟩ => ?_) fun env m' ⟨e1, b', x', hb', e2⟩ => by
    rw [e1, e2]; exact hq b' x' (hb'.resolve_left fun z => hc (List.map_eq_nil_iff.mp z))
  obtain ⟨c, _, rfl⟩ := List.mem_map.mp (show d ∈ cs.map D.int by rw [e]; simp)
  subst e1 e2
  have hm : mulOk b' 69621 = true := mulOk_right (by decide)
  have hp0 : ¬ p = 0 := by omega
  have r := fmod_range (a := b' * 69621 + c + T) hp.1
  refine ⟨_, rfl, ?_⟩
  have : ((b' * 69621 + c + T).fmod p).natAbs < 2 ^ 62 := by omega
  simpa [bCell, hm, hp0] using this
theorem int_int (i : Int) : bltD .int [.int i] = some (.int i) := rfl
theorem idx_turn (cs : List Int) (L T : Int) : getK [(kGreat, D.loc 0), (kCells, .lst (cs.map .int)), (kLeft, .int L), (kTurn, .int T)] (.inr ("turn" : PySem.Str)) = some (.int T) := rfl
theorem idx_left (cs : List Int) (L T : Int) : getK [(kGreat, D.loc 0), (kCells, .lst (cs.map .int)), (kLeft, .int L), (kTurn, .int T)] (.inr ("left" : PySem.Str)) = some (.int L) := rfl
theorem idx_cells (cs : List Int) (L T : Int) : getK [(kGreat, D.loc 0), (kCells, .lst (cs.map .int)), (kLeft, .int L), (kTurn, .int T)] (.inr ("cells" : PySem.Str)) = some (.lst (cs.map .int)) := rfl
theorem idx_great (cs : List Int) (L T : Int) : getK [(kGreat, D.loc 0), (kCells, .lst (cs.map .int)), (kLeft, .int L), (kTurn, .int T)] (.inr ("great" : PySem.Str)) = some (.loc 0) := rfl
theorem at1 (gs cs : List Int) (L T : Int) (rest : Mem) : deref (drM gs cs L T rest) (.loc 1) = some (.dK [(kGreat, .loc 0), (kCells, .lst (cs.map .int)), (kLeft, .int L), (kTurn, .int T)]) := rfl
theorem at0 (gs cs : List Int) (L T : Int) (rest : Mem) : deref (drM gs cs L T rest) (.loc 0) = some (.lst (gs.map .int)) := rfl
theorem put_left (gs cs : List Int) (L T L' : Int) (rest : Mem) : putM (.loc 1) (.str "left") (.int L') (drM gs cs L T rest) = some (drM gs cs L' T rest) := rfl
theorem put_turn (gs cs : List Int) (L T T' : Int) (rest : Mem) : putM (.loc 1) (.str "turn") (.int T') (drM gs cs L T rest) = some (drM gs cs L T' rest) := rfl
theorem blended (gs cs : List Int) (L T : Int) (rest : Mem) (hc : cs ≠ []) (hT : 0 ≤ T) {Q : D → Mem → Prop} (hq : ∀ B : Int, 0 ≤ B → Q (.int B) (drM gs cs L (T + 1) rest)) : Tot (F__law_blended fe [.loc 1] (drM gs cs L T rest)) Q := by
  have body : ∀ d ∈ [D.int 2147482501, .int 2147482481, .int 2147482417], ∃ p : Int, d = .int p ∧ 0 < p ∧ p < 2147483648 := by
    intro d hd
    simp only [List.mem_cons, List.not_mem_nil, or_false] at hd
    rcases hd with rfl | rfl | rfl <;> exact ⟨_, rfl, by decide, by decide⟩
  simp only [F__law_blended, b__law_blended, runB_at, sSeq_at, sPar_at, esCons_at, esNil_at, eBin_at, wVar_at, eVar_at, eIdx_at, eCon_at, sPutL_at, sFor_at', iSeq_at, eLst_at]
  simp [at1, idx_turn, put_turn]
  refine Tot.bind (Tot.forGI (fun env m => m = drM gs cs L (T + 1) rest ∧ ∃ (B : Int) (x y z : Sl), 0 ≤ B ∧ env = [.val (.loc 1), .val (.int (T + 1)), .val (.int B), x, y, z]) ⟨rfl, 0, _, _, _, Int.le_refl 0, rfl⟩ (fun d hd env m ⟨e1, B, x, y, z, hB, e2⟩ => ?_) fun env m ⟨e1, B, x, y, z, hB, e2⟩ => ?_)
  · obtain ⟨p, rfl, hp⟩ := body d hd
    subst e1 e2
    refine ⟨_, rfl, ?_⟩
    have m1 : mulOk 39373 (T + 1) = true := mulOk_left (by decide)
    have m2 : mulOk B 2147483647 = true := mulOk_right (by decide)
    have p0 : ¬ p = 0 := by omega
    simp [m1, at1, idx_cells]
    refine Tot.bind (cells_loop (p := p) hp hc fun b' x' hb' => ?_)
    have h64 : b'.natAbs < 18446744073709551616 := by omega
    have r := fmod_range (a := b' ^ 5) hp.1
    simp [m2, p0, h64]
    omega
  · subst e1 e2
    simp
    exact hq B hB
/-- a draw below n -/
theorem draw_wp {rest m : Mem} {n : Int} (h : Dr rest m) (hn : 0 < n ∧ n < 1073741824) {Q : D → Mem → Prop} (hq : ∀ (v : Int) (m' : Mem), 0 ≤ v → v < n → Dr rest m' → Q (.int v) m') : Tot (F__law_draw fe [.loc 1, .int n] m) Q := by
  obtain ⟨gs, cs, L, T, rfl, hc, hg, hl, hL, hT⟩ := h.ex
  have n0 : ¬ n = 0 := by omega
  have n1 : n.natAbs < 1073741824 := by omega
  have fin : ∀ (gs : List Int) (L T : Int) , (∀ g ∈ gs, 0 ≤ g) → gs.length ≤ 100 → 0 ≤ L → 0 ≤ T → Q (.int (L.fmod n)) (drM gs cs (L.fdiv n) T rest) := fun gs L T hg hl hL hT =>
    hq _ _ (fmod_range hn.1).1 (fmod_range hn.1).2 ⟨gs, cs, _, T, rfl, hc, hg, hl, by rw [Int.fdiv_eq_ediv_of_nonneg _ (by omega)]; exact Int.ediv_nonneg hL (by omega), hT⟩
  simp only [F__law_draw, b__law_draw, runB_at]
  by_cases hL0 : L = 0
  · subst hL0
    cases gs with
    | nil =>
      simp [at1, at0, idx_left, idx_great]
      refine Tot.bind (blended [] cs 0 T rest hc hT fun B hB => ?_)
      simp [put_left, at1, idx_left, n0, n1]
      exact fin [] B (T + 1) (fun g z => nomatch z) (by simp) hB (by omega)
    | cons g gs =>
      have pop : ∀ (rest : Mem), chkL (.loc 0) (bnd (eCon (.int 0) [Sl.val (.loc 1), .val (.int n), .no]) fun y => popM (.loc 0) y) (drM (g :: gs) cs 0 T rest) = .ok (.int g) (drM gs cs 0 T rest) := fun rest => by
        simp [chkL, popM, drM, ixN]
      simp [at1, at0, idx_left, idx_great, pop, put_left, n0, n1]
      exact fin gs g T (fun x hx => hg x (List.mem_cons_of_mem _ hx)) (by simp at hl; omega) (hg g List.mem_cons_self) hT
  · simp [at1, idx_left, hL0, n0, n1, put_left]
    exact fin gs L T hg hl hL hT
/-- one of some things -/
theorem pick_wp {rest m : Mem} {xs : List D} (h : Dr rest m) (hn : xs ≠ []) (hl : xs.length < 1073741824) {Q : D → Mem → Prop} (hq : ∀ (x : D) (m' : Mem), x ∈ xs → Dr rest m' → Q x m') : Tot (F__law_pick fe [.loc 1, .lst xs] m) Q := by
  have h0 : 0 < xs.length := List.length_pos_iff.mpr hn
  simp only [F__law_pick, b__law_pick, runB_at]
  simp
  refine Tot.bind (draw_wp h (by omega) fun v m' h1 h2 hd => ?_)
  obtain ⟨k, rfl⟩ := Int.eq_ofNat_of_zero_le h1
  have hk : k < xs.length := by omega
  simp [Ev.atI_nat (List.getElem?_eq_getElem hk)]
  exact hq _ m' (List.getElem_mem hk) hd
theorem pow1018 : binD .pow (.int 10) (.int 18) = some (.int 1000000000000000000) := by
  simp only [binD]
  rw [if_pos (by decide)]
  rfl
def absI (i : Int) : Int := if i < 0 then -i else i
/-- the start -/
theorem begun_wp (ns : List Int) (hn : ns ≠ []) (hl : ns.length ≤ 100) {Q : D → Mem → Prop} (hq : ∀ m', Dr [] m' → Q (.loc 1) m') : Tot (F__law_begun fe [.frz (ns.map .int)] []) Q := by
  have e1 : ∀ (y z : Sl) (m : Mem), compG [2] (.name 2) (cOne (eCmp .ge (eBlt .abs (esCons (wVar 2) esNil)) (eBin .pow (eCon (.int 10)) (eCon (.int 18))))) (eBin .sub (eBlt .abs (esCons (wVar 2) esNil)) (eBin .pow (eCon (.int 10)) (eCon (.int 18)))) (ns.map .int) [.val (.frz (ns.map .int)), y, z] m =
      .ok (.lst ((ns.filter fun c => decide (1000000000000000000 ≤ absI c)).map fun c => .int (absI c - 1000000000000000000))) m := fun y z m => by
    refine compG_map .int _ _ ns rfl fun c _ => ⟨_, rfl, ?_, fun _ => ?_⟩
    · simp [pow1018, boolOf, absI]
      exact decide_eq_decide.mpr Iff.rfl
    · simp [pow1018, absI]
  have e2 : ∀ (y z : Sl) (m : Mem), compG [2] (.name 2) cYes (eBlt .abs (esCons (wVar 2) esNil)) (ns.map .int) [.val (.frz (ns.map .int)), y, z] m = .ok (.lst (ns.map fun c => .int (absI c))) m := fun y z m => by
    refine compG_all .int _ ns rfl fun c _ => ⟨_, rfl, ?_⟩
    simp [absI]
  simp only [F__law_begun, b__law_begun, runB_at]
  simp [e1, e2, newL]
  refine hq _ ⟨(ns.filter fun c => decide (1000000000000000000 ≤ absI c)).map fun c => absI c - 1000000000000000000, ns.map absI, 0, 0, ?_, ?_, ?_, ?_, Int.le_refl 0, Int.le_refl 0⟩
  · simp [drM, drD, kGreat, kCells, kLeft, kTurn, Function.comp_def]
  · simpa using hn
  · intro g hg
    obtain ⟨c, hc, rfl⟩ := List.mem_map.mp hg
    have := of_decide_eq_true (List.mem_filter.mp hc).2
    omega
  · rw [List.length_map]
    exact Nat.le_trans (List.length_filter_le _ _) hl
end Pg
end
section
set_option Elab.async false
set_option linter.all false
set_option maxRecDepth 100000
/-! Ev: what repr tells is there. -/
namespace Ev
open PySem L2
theorem strOk_app {a b : Str} (ha : PyData.strOk a = true) (hb : PyData.strOk b = true) : PyData.strOk (a ++ b) = true := by
  show Array.all (a.cps ++ b.cps) _ = true
  rw [Array.all_append]
  exact Bool.and_eq_true_iff.mpr ⟨ha, hb⟩
theorem strOk_of (s : String) : PyData.strOk (Str.ofString s) = true := by
  rw [Str.ofString_eq_toList]
  show Array.all _ _ = true
  rw [List.all_toArray, List.all_map, List.all_eq_true]
  intro c _
  refine decide_eq_true ?_
  rcases c.valid with h | ⟨_, h⟩
  · exact Nat.lt_trans h (by decide)
  · exact h
theorem strOk_join {sep : Str} (hs : PyData.strOk sep = true) : ∀ {ts : List Str}, (∀ t ∈ ts, PyData.strOk t = true) → PyData.strOk (Str.join sep ts) = true
  | [], _ => strOk_of ""
  | [x], h => h x List.mem_cons_self
  | x :: y :: r, h => by
    have e : Str.join sep (x :: y :: r) = x ++ sep ++ Str.join sep (y :: r) := rfl
    rw [e]
    exact strOk_app (strOk_app (h x List.mem_cons_self) hs) (strOk_join hs fun t ht => h t (List.mem_cons_of_mem _ ht))
theorem strOk_from : ∀ (ts : List Str) (k : Nat) (acc : Str), PyData.strOk acc = true → (∀ t ∈ ts, PyData.strOk t = true) → PyData.strOk (textFrom k acc ts) = true
  | [], k, acc, ha, _ => ha
  | t :: r, k, acc, ha, h => by
    show PyData.strOk (textFrom (k + 1) (acc ++ (if k > 0 then ", " else "" : String) ++ t) r) = true
    exact strOk_from r _ _ (strOk_app (strOk_app ha (strOk_of _)) (h t List.mem_cons_self)) fun t ht => h t (List.mem_cons_of_mem _ ht)
theorem strOk_list {ts : List Str} (h : ∀ t ∈ ts, PyData.strOk t = true) : PyData.strOk (listText ts) = true := strOk_app (strOk_from ts 0 _ (strOk_of _) h) (strOk_of _)
theorem strOk_tup {ts : List Str} (h : ∀ t ∈ ts, PyData.strOk t = true) : PyData.strOk (tupleText ts) = true := strOk_app (strOk_app (strOk_of _) (strOk_join (strOk_of _) h)) (strOk_of _)
/-- data that repr shows: what toPy says, how deep, how heavy -/
structure Rp (k w : Nat) (d : D) : Prop where
  ex : ∃ p, toPy d = some p ∧ p.showable = true ∧ p.depth ≤ k ∧ p.leavesShort 400 = true ∧ p.weight ≤ w ∧ PyData.strOk p.shown = true
theorem Rp.mono {k w k' w' : Nat} {d : D} (h : Rp k w d) (hk : k ≤ k') (hw : w ≤ w') : Rp k' w' d := by
  obtain ⟨p, h1, h2, h3, h4, h5, h6⟩ := h.ex
  exact ⟨p, h1, h2, by omega, h4, by omega, h6⟩
theorem Rp.non : Rp 0 0 .non := ⟨.none, rfl, rfl, Nat.le_refl _, rfl, Nat.le_refl _, strOk_of _⟩
theorem Rp.bl (b : Bool) : Rp 0 0 (.bl b) := ⟨.bool b, rfl, rfl, Nat.le_refl _, rfl, Nat.le_refl _, by cases b <;> exact strOk_of _⟩
theorem log2_lt {n k : Nat} (hk : 0 < k) (h : n < 2 ^ k) : n.log2 < k := by
  by_cases z : n = 0
  · subst z; simpa using hk
  · exact (Nat.log2_lt z).mpr h
theorem Rp.int {i : Int} (h : i.natAbs < 2 ^ 64) : Rp 0 64 (.int i) := by
  have hl : i.natAbs.log2 < 64 := log2_lt (by decide) h
  refine ⟨.int i, rfl, ?_, Nat.le_refl _, ?_, ?_, strOk_of _⟩
  · show decide _ = true
    exact decide_eq_true (by omega)
  · show decide ((PyData.shown (.int i)).length ≤ 400) = true
    refine decide_eq_true ?_
    have := int_text_length_le (a := i) (k := 64) (by decide) hl
    have e : (PyData.shown (.int i)).length = (toString i).length := by
      show (Str.ofString (toString i)).length = _
      rw [Str.ofString_eq_toList]
      simp [Str.length]
      first | exact String.length_toList | rfl
    omega
  · show (if i == 0 then 0 else i.natAbs.log2 + 1) ≤ 64
    split <;> omega
theorem Rp.all {k w : Nat} : ∀ {xs : List D}, (∀ x ∈ xs, Rp k w x) → ∃ ps, toPys xs = some ps ∧ PyData.showableAll ps = true ∧ PyData.depthAll ps ≤ k ∧ PyData.leavesShortAll 400 ps = true ∧ PyData.weightAll ps ≤ xs.length * (w + 1) ∧ ∀ t ∈ PyData.shownAll ps, PyData.strOk t = true
  | [], _ => ⟨[], rfl, rfl, Nat.zero_le _, rfl, Nat.zero_le _, fun t z => nomatch z⟩
  | x :: xs, h => by
    obtain ⟨p, h1, h2, h3, h4, h5, h6⟩ := (h x List.mem_cons_self).ex
    obtain ⟨ps, g1, g2, g3, g4, g5, g6⟩ := Rp.all fun y hy => h y (List.mem_cons_of_mem _ hy)
    refine ⟨p :: ps, ?_, ?_, ?_, ?_, ?_, ?_⟩
    · rw [toPys, h1, g1]
    · rw [PyData.showableAll, h2, g2]; rfl
    · rw [PyData.depthAll]; omega
    · rw [PyData.leavesShortAll, h4, g4]; rfl
    · rw [PyData.weightAll, List.length_cons, Nat.add_mul, Nat.one_mul]; omega
    · intro t ht
      rw [PyData.shownAll] at ht
      rcases List.mem_cons.mp ht with rfl | ht
      · exact h6
      · exact g6 t ht
theorem Rp.tup {k w : Nat} {xs : List D} (h : ∀ x ∈ xs, Rp k w x) : Rp (k + 1) (xs.length * (w + 1)) (.tup xs) := by
  obtain ⟨ps, g1, g2, g3, g4, g5, g6⟩ := Rp.all h
  refine ⟨.tuple ps, by rw [toPy, g1]; rfl, by rw [PyData.showable]; exact g2, by rw [PyData.depth]; omega, by rw [PyData.leavesShort]; exact g4, by rw [PyData.weight]; exact g5, ?_⟩
  rw [PyData.shown]
  exact strOk_tup g6
theorem Rp.lst {k w : Nat} {xs : List D} (h : ∀ x ∈ xs, Rp k w x) : Rp (k + 1) (xs.length * (w + 1)) (.lst xs) := by
  obtain ⟨ps, g1, g2, g3, g4, g5, g6⟩ := Rp.all h
  refine ⟨.list ps, by rw [toPy, g1]; rfl, by rw [PyData.showable]; exact g2, by rw [PyData.depth]; omega, by rw [PyData.leavesShort]; exact g4, by rw [PyData.weight]; exact g5, ?_⟩
  rw [PyData.shown]
  exact strOk_list g6
/-- what repr gives, and it equals itself -/
theorem Rp.repr {k w : Nat} {d : D} (h : Rp k w d) (hk : k < 64) (hw : w ≤ 41000) : ∃ s, bltD .repr [d] = some (.str s) ∧ eqD (.str s) (.str s) = some true := by
  obtain ⟨p, h1, h2, h3, h4, h5, h6⟩ := h.ex
  have hl := PyData.shown_le 400 (by decide) p h4
  have hl2 : p.shown.length ≤ line := by
    have : (400 + 2) * p.weight ≤ 402 * 41000 := Nat.mul_le_mul_left _ (by omega)
    unfold line
    omega
  have hd : p.depth < 64 := by omega
  refine ⟨p.shown, ?_, ?_⟩
  · show (toPy d).bind _ = _
    rw [h1]
    simp [h2, hd, hl2]
  · rw [eqD_str h6 h6]
    simp
/-- a list of whole numbers -/
theorem ints_of {p : Int → Prop} : ∀ {vs : List D}, (∀ v ∈ vs, ∃ i, v = .int i ∧ p i) → ∃ r : List Int, vs = r.map .int ∧ ∀ i ∈ r, p i
  | [], _ => ⟨[], rfl, fun i z => nomatch z⟩
  | v :: vs, h => by
    obtain ⟨i, rfl, hi⟩ := h v List.mem_cons_self
    obtain ⟨r, rfl, hr⟩ := ints_of fun w hw => h w (List.mem_cons_of_mem _ hw)
    exact ⟨i :: r, rfl, fun j hj => by
      rcases List.mem_cons.mp hj with rfl | hj
      · exact hi
      · exact hr j hj⟩
end Ev
end
section
set_option Elab.async false
set_option linter.all false
set_option maxRecDepth 100000
set_option maxHeartbeats 4000000
/-! K89: the law, turn by turn. -/
namespace K89
open PySem L2 Ev Pg
variable {fe : FE}
/-- a drawn row -/
theorem tg_row_wp {rest m : Mem} {n : Int} (h : Dr rest m) (hn : 0 ≤ n ∧ n ≤ 9) {Q : D → Mem → Prop} (hq : ∀ (r : List Int) (m' : Mem), Row r → Dr rest m' → Q (.tup (r.map .int)) m') : Tot (F__law_tg_row fe [.loc 1, .int n] m) Q := by
  simp only [F__law_tg_row, b__law_tg_row, runB_at]
  have g1 : n ≤ 1000 := by omega
  simp [hn.1, g1]
  refine Tot.bind (Tot.compG (I := Dr rest) (P := fun v => ∃ i, v = .int i ∧ (i = -1 ∨ i = 0 ∨ i = 1)) rfl h (fun d hd m hm => ⟨_, rfl, ?_⟩) fun vs m' hm hl hv => ?_)
  · simp
    refine Tot.bind (draw_wp hm (by decide) fun v m' h1 h2 hd => ?_)
    simp
    exact ⟨hd, by omega⟩
  · obtain ⟨r, rfl, hr⟩ := ints_of hv
    simp
    refine hq r m' ⟨?_, hr⟩ hm
    rw [List.length_map] at hl
    rw [hl, rangeD_len]
    omega
theorem rows_repr {r : List Int} (h : Row r) : Rp 1 1000 (.tup (r.map .int)) := by
  refine (Rp.tup (k := 0) (w := 64) fun x hx => ?_).mono (Nat.le_refl _) ?_
  · obtain ⟨i, hi, rfl⟩ := List.mem_map.mp hx
    exact Rp.int (by rcases h.2 i hi with rfl | rfl | rfl <;> decide)
  · rw [List.length_map]; have := h.1; omega
/-- the text of a row, by signs -/
theorem rowText_S (r : List Int) : rowText r = S (if r = [] then rowL else rowL ++ 32 :: r.map mk) := by
  unfold rowText
  by_cases h : r = []
  · rw [if_pos h, if_pos h, s_row]
  · rw [if_neg h, if_neg h, s_row_]
    show (⟨_ ++ _⟩ : Str) = _
    simp [marks]
def textL (r : List Int) : List Nat := if r = [] then rowL else rowL ++ 32 :: r.map mk
theorem textL_len {r : List Int} (h : Row r) : (textL r).length ≤ 13 := by
  unfold textL
  split
  · decide
  · have := h.1; simp; omega
theorem textL_ok (r : List Int) : ok (textL r) = true := by
  unfold textL
  split
  · decide
  · refine List.all_eq_true.mpr fun x hx => ?_
    simp only [List.mem_append, List.mem_cons, List.not_mem_nil, or_false, List.mem_map] at hx
    rcases hx with (rfl | rfl | rfl) | rfl | ⟨i, _, rfl⟩
    · decide
    · decide
    · decide
    · decide
    · unfold mk; split
      · decide
      · split <;> decide
theorem val_mk {i : Int} (h : i = -1 ∨ i = 0 ∨ i = 1) : val (mk i) = i := by rcases h with rfl | rfl | rfl <;> decide
theorem valid_mk (i : Int) : valid (mk i) = true := by
  unfold mk; split
  · decide
  · split <;> decide
theorem mk_val {c : Nat} (h : valid c = true) : mk (val c) = c := by
  have : c = 45 ∨ c = 48 ∨ c = 43 := by
    unfold valid at h
    simp only [Bool.or_eq_true, decide_eq_true_eq] at h
    omega
  rcases this with rfl | rfl | rfl <;> decide
/-- reading a row's text gives the row -/
theorem readR_text {r : List Int} (h : Row r) : readR (textL r) = .inr r := by
  have nl : (10 : Nat) ∉ textL r := by
    unfold textL
    split
    · decide
    · intro z
      simp only [List.mem_append, List.mem_cons, List.not_mem_nil, or_false, List.mem_map] at z
      rcases z with (z | z | z) | z | ⟨i, _, z⟩
      · cases z
      · cases z
      · cases z
      · cases z
      · unfold mk at z; split at z
        · cases z
        · split at z <;> cases z
  unfold readR
  rw [splitL_last nl]
  have f : found (textL r) = some r := by
    unfold textL
    by_cases hr : r = []
    · rw [if_pos hr, hr]; exact found_row
    · rw [if_neg hr]
      have s : seen (rowL ++ 32 :: r.map mk) = r.map mk := rfl
      rw [found_yes (by simp) (by rw [s]; simpa using hr) (by rw [s, List.all_map]; exact List.all_eq_true.mpr fun i _ => valid_mk i), s, List.map_map]
      congr 1
      conv => rhs; rw [← List.map_id r]
      exact List.map_congr_left fun i hi => val_mk (h.2 i hi)
  show (match found (textL r) with | none => _ | some r => _) = _
  rw [f]
  have h9 : ¬ 9 < r.length := by have := h.1; omega
  simp [h9]
theorem row_back {r : List Int} (h : Row r) (m : Mem) : F_row_of_text fe [.str (rowText r)] m = .ok (.tup (r.map .int)) m := by
  rw [rowText_S]
  have e := row_of_text_str (fe := fe) (textL r) (by have := textL_len h; unfold line; omega) (textL_ok r) m
  rw [readR_text h] at e
  exact e
/-- what is read has just this text -/
theorem text_back {t : List Nat} {r : List Int} (h : readR t = .inr r) : Row r ∧ textL r = t := by
  unfold readR at h
  cases w : splitL 10 t with
  | nil => exact absurd w (splitL_ne 10 t)
  | cons l ls =>
    rw [w] at h
    rw [List.headD_cons] at h
    cases f : found l with
    | none => rw [f] at h; cases h
    | some q =>
      rw [f] at h
      dsimp only at h
      by_cases h1 : 9 < q.length
      · rw [if_pos h1] at h; cases h
      · rw [if_neg h1] at h
        by_cases h2 : 1 < (l :: ls).length
        · rw [if_pos h2] at h; cases h
        · rw [if_neg h2] at h
          cases h
          have e : ls = [] := by cases ls with
            | nil => rfl
            | cons a b => simp at h2
          subst e
          have tl : t = l := by
            have j := join_split 10 t
            rw [w, joinL] at j
            exact j.symm
          subst tl
          by_cases h0 : t = rowL
          · subst h0
            rw [found_row] at f
            cases f
            exact ⟨⟨by simp, fun i z => nomatch z⟩, rfl⟩
          · have b1 : seen t ≠ [] := fun z => by rw [found_not h0 (.inl z)] at f; cases f
            have b2 : (seen t).all valid = true := by
              cases q : (seen t).all valid with
              | true => rfl
              | false => rw [found_not h0 (.inr q)] at f; cases f
            rw [found_yes h0 b1 b2] at f
            cases f
            refine ⟨⟨by omega, fun i hi => ?_⟩, ?_⟩
            · obtain ⟨c, _, rfl⟩ := List.mem_map.mp hi
              unfold val; split
              · exact .inl rfl
              · split
                · exact .inr (.inl rfl)
                · exact .inr (.inr rfl)
            · unfold textL
              rw [if_neg (by simpa using b1)]
              conv => rhs; rw [seen_back b1]
              congr 2
              rw [List.map_map]
              conv => rhs; rw [← List.map_id (seen t)]
              exact List.map_congr_left fun c hc => mk_val (List.all_eq_true.mp b2 c hc)
theorem row_text_back {t : List Nat} {r : List Int} (h : readR t = .inr r) (m : Mem) : F_row_text fe [.tup (r.map .int)] m = .ok (.str (S t)) m := by
  obtain ⟨h1, h2⟩ := text_back h
  rw [row_text_row r h1, rowText_S]
  have : (if r = [] then rowL else rowL ++ 32 :: r.map mk) = t := h2
  rw [this]
end K89
end
section
set_option Elab.async false
set_option linter.all false
set_option maxRecDepth 100000
set_option maxHeartbeats 4000000
/-! K89: a lap of the law. -/
namespace K89
open PySem L2 Ev Pg
theorem dr_new {rest m : Mem} (h : Dr rest m) (xs : List D) : ∃ m', newL (.lst xs) m = .ok (.loc (rest.length + 2)) m' ∧ Dr (rest ++ [.lst xs]) m' := by
  obtain ⟨gs, cs, L, T, rfl, hh⟩ := h.ex
  exact ⟨_, by simp [newL, drM]; rfl, ⟨gs, cs, L, T, by simp [drM], hh⟩⟩
/-- what the classes say -/
structure FeB (fe : FE) : Prop where
  text : (fe.cls.contains (("BadText" : Str), true) && fe.sub "BadText" fe.base) = true
  row : (fe.cls.contains (("BadRow" : Str), true) && fe.sub "BadRow" fe.base) = true
  isT : ∀ fs, isiD fe.cls fe.sub (.cls "BadText") (.exc "BadText" fs) = some true
  isR : ∀ fs, isiD fe.cls fe.sub (.cls "BadRow") (.exc "BadRow" fs) = some true
  line : ∀ d, fldD fe.cls fe.fl (.exc "BadText" [("line", d)]) "line" = some d
theorem dr_get {rest m : Mem} {mo : MO} (h : Dr (rest ++ [mo]) m) : m[rest.length + 2]? = some mo := by
  obtain ⟨gs, cs, L, T, rfl, hh⟩ := h.ex
  simp [drM]
theorem dr_set {rest m : Mem} {mo mo' : MO} (h : Dr (rest ++ [mo]) m) : Dr (rest ++ [mo']) (m.set (rest.length + 2) mo') := by
  obtain ⟨gs, cs, L, T, rfl, hh⟩ := h.ex
  exact ⟨gs, cs, L, T, by simp [drM], hh⟩
theorem S_app (p q : List Nat) : S p ++ S q = S (p ++ q) := by
  show (⟨_ ++ _⟩ : Str) = _
  simp
def bLap (fe : FE) : Ss :=
  (sSeq (sSet 7 (eCall 2 (F__law_draw fe) (esCons (eVar 1) (esCons (eBin .add (eBlt .len (esCons (wVar 4) esNil)) (eCon (.int 1))) esNil))))
      (sSeq (sSet 8 (eCall 2 (F__law_pick fe) (esCons (eVar 1) (esCons (eLst (esCons (eCon (.str ("-" : PySem.Str))) (esCons (eCon (.str ("0" : PySem.Str))) (esCons (eCon (.str ("+" : PySem.Str))) (esCons (eCon (.str ("+" : PySem.Str))) (esCons (eCon (.str ("1" : PySem.Str))) (esCons (eCon (.str (" " : PySem.Str))) (esCons (eCon (.str ("" : PySem.Str))) (esCons (eCon (.str ("a" : PySem.Str))) (esCons (eCon (.str ("\n" : PySem.Str))) (esCons (eCon (.str ("row" : PySem.Str))) esNil))))))))))) esNil))))
      (sSeq (sAsg (.tup [(.name 9), (.name 10)]) (eTup (esCons (eBin .add (eBin .add (eSli (wVar 4) oNone (oSome (eVar 7))) (wVar 8)) (eSli (wVar 4) (oSome (eBin .add (wVar 7) (eCall 2 (F__law_draw fe) (esCons (eVar 1) (esCons (eCon (.int 2)) esNil))))) oNone)) (esCons (eNewL (eLst esNil)) esNil))))
      (sSeq (sAsg (.tup [(.name 11), (.name 12)]) (eCall 1 (F__law_k89_due fe) (esCons (eMeth .split (eVar 9) (esCons (eCon (.str ("\n" : PySem.Str))) esNil)) esNil)))
      (sSeq (sSet 6 (eCaught fe (eApp (eVar 10) (eCall 1 (F_row_of_text fe) (esCons (eVar 9) esNil)))))
      (sSeq (sIf (eAnd (eCmp .eq (wVar 11) (eNeg (eCon (.int 1)))) (eOr (eCmp .isnot (wVar 6) (eCon .non)) (eOr (eCmp .ne (eBlt .repr (esCons (eIdx (wVar 10) (eCon (.int 0))) esNil)) (eBlt .repr (esCons (wVar 12) esNil))) (eCmp .ne (eCall 1 (F_row_text fe) (esCons (eIdx (wVar 10) (eCon (.int 0))) esNil)) (wVar 9)))))
        (sSeq (sRet (eCon (.bl false)))
        sNil)
        sNil)
      (sSeq (sIf (eAnd (eCmp .ne (wVar 11) (eNeg (eCon (.int 1)))) (eOr (eNot (eIsi fe (.cls "BadText") (wVar 6))) (eCmp .ne (eBlt .repr (esCons (eFld fe (eVar 6) "line") esNil)) (eBlt .repr (esCons (wVar 11) esNil)))))
        (sSeq (sRet (eCon (.bl false)))
        sNil)
        sNil)
      sNil)))))))
theorem near_pick (x : D) (h : x ∈ [D.str "-", .str "0", .str "+", .str "+", .str "1", .str " ", .str "", .str "a", .str "\n", .str "row"]) : ∃ q : List Nat, x = .str (S q) ∧ q.length ≤ 3 ∧ ok q = true := by
  simp only [List.mem_cons, List.not_mem_nil, or_false] at h
  rcases h with rfl | rfl | rfl | rfl | rfl | rfl | rfl | rfl | rfl | rfl
  · exact ⟨[45], congrArg D.str (by decide), by decide, by decide⟩
  · exact ⟨[48], congrArg D.str (by decide), by decide, by decide⟩
  · exact ⟨[43], congrArg D.str (by decide), by decide, by decide⟩
  · exact ⟨[43], congrArg D.str (by decide), by decide, by decide⟩
  · exact ⟨[49], congrArg D.str (by decide), by decide, by decide⟩
  · exact ⟨[32], congrArg D.str (by decide), by decide, by decide⟩
  · exact ⟨[], congrArg D.str (by decide), by decide, by decide⟩
  · exact ⟨[97], congrArg D.str (by decide), by decide, by decide⟩
  · exact ⟨[10], congrArg D.str (by decide), by decide, by decide⟩
  · exact ⟨[114, 111, 119], congrArg D.str (by decide), by decide, by decide⟩
theorem due_int {l : List Nat} {n : Nat} {i : Int} (d1 : dueL l n = (i, none)) : i.natAbs < 2 ^ 64 := by
  unfold dueL at d1
  split at d1
  · rw [← (Prod.mk.inj d1).1]; decide
  · split at d1
    · rw [← (Prod.mk.inj d1).1]; decide
    · cases (Prod.mk.inj d1).2
theorem lap_wp (hf : FeB fe) {rest m : Mem} {d0 d3 : D} {x2 x5 x6 x7 x8 x9 x10 x11 x12 : Sl} {t : List Nat} (ht : t.length ≤ 13) (kt : ok t = true) (h : Dr rest m) {Q : Out → Mem → Prop}
    (hq : ∀ y6 y7 y8 y9 y10 y11 y12 rest' m', Dr rest' m' → Q (.nx [.val d0, .val (.loc 1), x2, .val d3, .val (.str (S t)), x5, y6, y7, y8, y9, y10, y11, y12]) m') :
    Tot (bLap fe [.val d0, .val (.loc 1), x2, .val d3, .val (.str (S t)), x5, x6, x7, x8, x9, x10, x11, x12] m) Q := by
  have hsl : (S t).length ≤ line := by rw [S_len]; unfold line; omega
  refine Tot.seq ?_
  simp [-sSeq_at, hsl]
  refine Tot.bind (draw_wp h (by rw [S_len]; omega) fun v m1 v0 v1 h1 => ?_)
  obtain ⟨k, rfl⟩ := Int.eq_ofNat_of_zero_le v0
  simp [-sSeq_at]
  refine Tot.seq ?_
  simp [-sSeq_at]
  refine Tot.bind (pick_wp h1 (by simp) (by decide) fun x m2 hx h2 => ?_)
  obtain ⟨q, rfl, hq1, hq2⟩ := near_pick x hx
  simp [-sSeq_at]
  refine Tot.seq ?_
  have c1 : sliD (.str (S t)) .non (.int (k : Int)) = some (.str (S (t.take k))) := by
    show (if _ then some (D.str (cutS (S t) none (some (k : Int)))) else none) = _
    rw [if_pos hsl, cut_hi]
  have l1 : (S (t.take k)).length + (S q).length ≤ line := by
    rw [S_len, S_len, List.length_take]; unfold line; omega
  simp [-sSeq_at, c1, l1]
  refine Tot.bind (draw_wp h2 (by decide) fun w m3 w0 w1 h3 => ?_)
  obtain ⟨j, rfl⟩ := Int.eq_ofNat_of_zero_le w0
  have c2 : sliD (.str (S t)) (.int ((k : Int) + (j : Int))) .non = some (.str (S (t.drop (k + j)))) := by
    have := cut_lo t (k + j)
    show (if _ then some (D.str (cutS (S t) (some ((k : Int) + (j : Int))) none)) else none) = _
    rw [if_pos hsl, show ((k : Int) + (j : Int)) = ((k + j : Nat) : Int) by omega, this]
  have l2 : (S (t.take k) ++ S q).length + (S (t.drop (k + j))).length ≤ line := by
    rw [S_app, S_len, S_len, List.length_append, List.length_take, List.length_drop]; unfold line; omega
  obtain ⟨m4, nb, h4⟩ := dr_new h3 []
  obtain ⟨u, hu⟩ : ∃ u, u = t.take k ++ q ++ t.drop (k + j) := ⟨_, rfl⟩
  have lu : u.length ≤ 100 := by rw [hu, List.length_append, List.length_append, List.length_take, List.length_drop]; omega
  have ku : ok u = true := by
    rw [hu]
    refine List.all_eq_true.mpr fun x hx => ?_
    rcases List.mem_append.mp hx with hx | hx
    · rcases List.mem_append.mp hx with hx | hx
      · exact List.all_eq_true.mp kt x (List.mem_of_mem_take hx)
      · exact List.all_eq_true.mp hq2 x hx
    · exact List.all_eq_true.mp kt x (List.mem_of_mem_drop hx)
  have eu : S (t.take k) ++ S q ++ S (t.drop (k + j)) = S u := by rw [S_app, S_app, hu]
  simp [-sSeq_at, c2, l2, nb, eu]
  refine Tot.seq ?_
  cases w : splitL 10 u with
  | nil => exact absurd w (splitL_ne 10 u)
  | cons l ls =>
    have ll : l.length ≤ u.length := splitL_len (c := 10) (by rw [w]; exact List.mem_cons_self)
    have kl : ok l = true := ok_sub (c := 10) ku (by rw [w]; exact List.mem_cons_self)
    have s1 : smD .split (S u) [.str "\n"] = some (.lst ((l :: ls).map fun q => .str (S q))) := by rw [s_nl, smD_split u 10 (by unfold line; omega), w]
    have due := fun m => law_due (fe := fe) l ls (by unfold line; omega) kl m
    have er : readR u = readL l (ls.length + 1) := by rw [readR_eq, w]; rfl
    have rd := fun m => row_of_text_str (fe := fe) u (by unfold line; omega) ku m
    simp only [List.map_cons] at s1 due
    simp [-sSeq_at, s1, due]
    refine Tot.seq ?_
    have g0 := dr_get h4
    rcases due_read l (ls.length + 1) with ⟨r, d1, d2⟩ | ⟨i, d1, d2, d3⟩
    · rw [d2] at er
      rw [er] at rd
      have tb := fun m => row_text_back (fe := fe) er m
      obtain ⟨hr, _⟩ := text_back er
      obtain ⟨z, hz1, hz2⟩ := (rows_repr hr).repr (by decide) (by decide)
      have h5 : Dr (rest ++ [.lst [.tup (r.map .int)]]) _ := dr_set h4 (mo' := .lst [.tup (r.map .int)])
      have g5 := dr_get h5
      have eqs : eqD (.str (S u)) (.str (S u)) = some true := by rw [eqD_S ku ku]; simp
      simp [-sSeq_at, chkL, g0, rd, readD, appM, caughtM, d1, dueD]
      refine Tot.seq ?_
      simp [-sSeq_at, deref, g5, atI, ixN, hz1, hz2, tb, eqs]
      refine Tot.seq ?_
      simp [-sSeq_at]
      exact hq _ _ _ _ _ _ _ _ _ h5
    · rw [d2] at er
      rw [er] at rd
      obtain ⟨z, hz1, hz2⟩ := (Rp.int (i := i) (due_int d1)).repr (by decide) (by decide)
      simp [-sSeq_at, chkL, g0, rd, readD, caughtM, d1, dueD, hf.text]
      refine Tot.seq ?_
      simp [-sSeq_at, d3]
      refine Tot.seq ?_
      simp [-sSeq_at, d3, hf.isT, hf.line, hz1, hz2]
      exact hq _ _ _ _ _ _ _ _ _ h4
end K89
end
section
set_option Elab.async false
set_option linter.all false
set_option maxRecDepth 100000
set_option maxHeartbeats 4000000
/-! K89: the law is true. -/
namespace K89
open PySem L2 Ev Pg
def badRows : List D := [.non, .lst [.int 0], .tup [.int 2], .tup [.bl true], .tup (List.replicate 10 (.int 0)), .str "row", .tup [.int 0, .non]]
theorem badRows_exc (x : D) (hx : x ∈ badRows) (m : Mem) : F_row_text fe [x] m = .exc "BadRow" [] m := by
  obtain ⟨b1, b2, b3, b4, b5, b6, b7⟩ := bad_rows (fe := fe) m
  simp only [badRows, List.mem_cons, List.not_mem_nil, or_false] at hx
  rcases hx with rfl | rfl | rfl | rfl | rfl | rfl | rfl
  · exact b1
  · exact b2
  · exact b3
  · exact b4
  · exact b5
  · exact b6
  · exact b7
theorem bad_row_wp (hf : FeB fe) {rest m : Mem} {r : List Int} {env : Ev.Env} (he : env[1]? = some (.val (.loc 1))) (h : Dr rest m) : ∃ m', eCaught fe (eCall 1 (F_row_text fe) (esCons (eCall 2 (F__law_pick fe) (esCons (eVar 1) (esCons (eLst (esCons (eCon .non) (esCons (eLst (esCons (eCon (.int 0)) esNil)) (esCons (eTup (esCons (eCon (.int 2)) esNil)) (esCons (eTup (esCons (eCon (.bl true)) esNil)) (esCons (eBin .mul (eTup (esCons (eCon (.int 0)) esNil)) (eCon (.int 10))) (esCons (eCon (.str ("row" : PySem.Str))) (esCons (eTup (esCons (eCon (.int 0)) (esCons (eCon .non) esNil))) esNil)))))))) esNil))) esNil)) env m = .ok (.exc "BadRow" []) m' ∧ Dr rest m' := by
  have el : ∀ m, eLst (esCons (eCon .non) (esCons (eLst (esCons (eCon (.int 0)) esNil)) (esCons (eTup (esCons (eCon (.int 2)) esNil)) (esCons (eTup (esCons (eCon (.bl true)) esNil)) (esCons (eBin .mul (eTup (esCons (eCon (.int 0)) esNil)) (eCon (.int 10))) (esCons (eCon (.str ("row" : PySem.Str))) (esCons (eTup (esCons (eCon (.int 0)) (esCons (eCon .non) esNil))) esNil))))))) env m = .ok (.lst badRows) m := fun m => rfl
  obtain ⟨x, m', e1, e2, e3⟩ := (pick_wp (fe := fe) (Q := fun x m' => x ∈ badRows ∧ Dr rest m') h (xs := badRows) (List.cons_ne_nil _ _) (by decide) fun x m' hx h' => ⟨hx, h'⟩).ex
  refine ⟨m', ?_, e3⟩
  simp only [eCaught_at, eCall_at, esCons_at, esNil_at, eVar_at, he, Res.bind_ok, el, List.length_cons, List.length_nil, if_true, e1, badRows_exc x e2, Res.bind_exc, caughtM, hf.row]
theorem bad_text_wp (hf : FeB fe) {rest m : Mem} {r : List Int} {env : Ev.Env} (he : env[1]? = some (.val (.loc 1))) (h3 : env[3]? = some (.val (.tup (r.map .int)))) (h : Dr rest m) : ∃ m', eCaught fe (eCall 1 (F_row_of_text fe) (esCons (eCall 2 (F__law_pick fe) (esCons (eVar 1) (esCons (eLst (esCons (eCon .non) (esCons (eCon (.int 5)) (esCons (eTup esNil) (esCons (eVar 3) (esCons (eCon (.bl true)) esNil)))))) esNil))) esNil)) env m = .ok (.exc "BadText" [("line", .int 0)]) m' ∧ Dr rest m' := by
  have el : ∀ m, eLst (esCons (eCon .non) (esCons (eCon (.int 5)) (esCons (eTup esNil) (esCons (eVar 3) (esCons (eCon (.bl true)) esNil))))) env m = .ok (.lst [.non, .int 5, .tup [], .tup (r.map .int), .bl true]) m := fun m => by
    simp [h3]
  obtain ⟨x, m', e1, e2, e3⟩ := (pick_wp (fe := fe) (Q := fun x m' => F_row_of_text fe [x] m' = .exc "BadText" [("line", .int 0)] m' ∧ Dr rest m') h (xs := [.non, .int 5, .tup [], .tup (r.map .int), .bl true]) (List.cons_ne_nil _ _) (by simp) fun x m' hx h' => ⟨by
    obtain ⟨b1, b2, b3, b4⟩ := bad_texts (fe := fe) m'
    simp only [List.mem_cons, List.not_mem_nil, or_false] at hx
    rcases hx with rfl | rfl | rfl | rfl | rfl
    · exact b1
    · exact b2
    · exact b3 _
    · exact b3 _
    · exact b4, h'⟩).ex
  refine ⟨m', ?_, e3⟩
  simp only [eCaught_at, eCall_at, esCons_at, esNil_at, eVar_at, he, Res.bind_ok, el, List.length_cons, List.length_nil, if_true, e1, e2, caughtM, hf.text]
theorem repr_0 : bltD .repr [.int 0] = some (.str "0") := by
  have e : PyData.shown (.int 0) = ("0" : Str) := by decide +kernel
  have g : ∀ d : D, bltD .repr [d] = (toPy d).bind fun p => if p.showable && decide (p.depth < 64) && decide (p.shown.length ≤ Ev.line) then some (.str p.shown) else none := fun d => rfl
  rw [g, toPy, Option.bind_some, e]
  rfl
theorem law_wp (hf : FeB fe) (ns : List Int) (hn : ns ≠ []) (hl : ns.length ≤ 63) : Tot (F_law fe [.frz (ns.map .int)] []) fun v _ => v = .bl true := by
  refine Tot.run ?_
  unfold b_law
  refine Tot.seq ?_
  simp [-sSeq_at]
  refine Tot.bind (begun_wp ns hn (by omega) fun m hm => ?_)
  simp [-sSeq_at]
  refine Tot.seq ?_
  have r1 : (0 : Int) ≤ 4 + (if (5 : Int) < (ns.length : Int) then 5 else (ns.length : Int)) := by split <;> omega
  have r2 : 4 + (if (5 : Int) < (ns.length : Int) then 5 else (ns.length : Int)) ≤ (1000 : Int) := by split <;> omega
  simp [-sSeq_at, r1, r2]
  refine Tot.forGI (fun env m => ∃ x2 x3 x4 x5 x6 x7 x8 x9 x10 x11 x12 rest, env = [.val (.frz (ns.map .int)), .val (.loc 1), x2, x3, x4, x5, x6, x7, x8, x9, x10, x11, x12] ∧ Dr rest m) ⟨_, _, _, _, _, _, _, _, _, _, _, [], rfl, hm⟩ (fun d hd env m h => ?_) fun env m h => ?_
  · obtain ⟨x2, x3, x4, x5, x6, x7, x8, x9, x10, x11, x12, rest, rfl, hm⟩ := h
    refine ⟨_, rfl, ?_⟩
    refine Tot.seq ?_
    simp [-sSeq_at]
    refine Tot.bind (draw_wp hm (by decide) fun v m1 v0 v1 h1 => ?_)
    refine Tot.bind (tg_row_wp h1 (by omega) fun r m2 hr h2 => ?_)
    simp [-sSeq_at]
    refine Tot.seq ?_
    have e3 : eqD (.tup (r.map .int)) (.tup []) = some (decide (r = [])) := eqD_tupI r []
    have ml : (marks r).length ≤ 9 := by
      have h1 : (marks r).length = r.length := by simp [marks, Str.length]
      rw [h1]; exact hr.1
    have h4 : ("row " : Str).length = 4 := by decide
    have ll : ("row " : Str).length + (marks r).length ≤ line := by rw [h4]; unfold line; omega
    have s4 : ∀ Q' : Out → Mem → Prop, Q' (.nx [.val (.frz (ns.map .int)), .val (.loc 1), .val d, .val (.tup (r.map .int)), .val (.str (rowText r)), x5, x6, x7, x8, x9, x10, x11, x12]) m2 →
        Tot (sSet 4 (eIfe (eCmp .ne (wVar 3) (eTup esNil)) (eBin .add (eCon (.str ("row " : PySem.Str))) (eCall 1 (F__law_lv_marks fe) (esCons (eVar 3) esNil))) (eCon (.str ("row" : PySem.Str)))) [.val (.frz (ns.map .int)), .val (.loc 1), .val d, .val (.tup (r.map .int)), x4, x5, x6, x7, x8, x9, x10, x11, x12] m2) Q' := fun Q' hQ => by
      by_cases hr0 : r = []
      · have e3' := e3.trans (by rw [decide_eq_true hr0])
        simp [e3']
        rw [rowText, if_pos hr0] at hQ
        exact hQ
      · have e3' := e3.trans (by rw [decide_eq_false hr0])
        simp [e3', lv_marks_row r hr, ll]
        rw [rowText, if_neg hr0] at hQ
        exact hQ
    refine s4 _ ?_
    refine Tot.seq ?_
    have rt := fun m => row_text_row (fe := fe) r hr m
    have rb := fun m => row_back (fe := fe) hr m
    have kt := textL_ok r
    have et : rowText r = S (textL r) := rowText_S r
    have eqt : eqD (.str (rowText r)) (.str (rowText r)) = some true := by rw [et, eqD_S kt kt]; simp
    obtain ⟨z, hz1, hz2⟩ := (Rp.lst (k := 1) (w := 1000) (xs := [.tup (r.map .int), .tup (r.map .int)]) (fun x hx => by
      simp only [List.mem_cons, List.not_mem_nil, or_false, or_self] at hx
      subst hx
      exact rows_repr hr)).repr (by decide) (by simp)
    simp [-sSeq_at, rt, rb, eqt, hz1, hz2, kX, permL]
    refine Tot.seq ?_
    rw [et]
    simp [-sSeq_at]
    refine Tot.forGI (fun env m => ∃ x5 x6 x7 x8 x9 x10 x11 x12 rest, env = [.val (.frz (ns.map .int)), .val (.loc 1), .val d, .val (.tup (r.map .int)), .val (.str (S (textL r))), x5, x6, x7, x8, x9, x10, x11, x12] ∧ Dr rest m) ⟨_, _, _, _, _, _, _, _, rest, rfl, h2⟩ (fun d2 hd2 env m h => ?_) fun env m h => ?_
    · obtain ⟨y5, y6, y7, y8, y9, y10, y11, y12, rest2, rfl, hm2⟩ := h
      refine ⟨_, rfl, ?_⟩
      exact lap_wp hf (textL_len hr) kt hm2 fun y6 y7 y8 y9 y10 y11 y12 rest' m' h' => ⟨_, rfl, _, _, _, _, _, _, _, _, _, rfl, h'⟩
    · obtain ⟨y5, y6, y7, y8, y9, y10, y11, y12, rest2, rfl, hm2⟩ := h
      refine Tot.seq ?_
      obtain ⟨m3, c1, h3⟩ := bad_row_wp hf (r := r) (env := [.val (.frz (ns.map .int)), .val (.loc 1), .val d, .val (.tup (r.map .int)), .val (.str (S (textL r))), y5, y6, y7, y8, y9, y10, y11, y12]) rfl hm2
      rw [sIf_at, eNot_at, eIsi_at, c1]
      simp [-sSeq_at, hf.isR]
      refine Tot.seq ?_
      obtain ⟨m4, c2, h4⟩ := bad_text_wp hf (r := r) (env := [.val (.frz (ns.map .int)), .val (.loc 1), .val d, .val (.tup (r.map .int)), .val (.str (S (textL r))), y5, y6, y7, y8, y9, y10, y11, y12]) rfl rfl h3
      rw [sSet_at, c2]
      simp [-sSeq_at]
      refine Tot.seq ?_
      have z0 : bltD .repr [.int 0] = some (.str "0") := repr_0
      have z1 : eqD (.str "0") (.str "0") = some true := by rw [eqD_str (strOk_of _) (strOk_of _)]; simp
      simp [-sSeq_at, hf.isT, hf.line, z0, z1]
      exact ⟨_, h4⟩
  · obtain ⟨x2, x3, x4, x5, x6, x7, x8, x9, x10, x11, x12, rest, rfl, hm⟩ := h
    refine Tot.seq ?_
    simp [-sSeq_at]
/-- the empty script, by running it -/
theorem law_nil : (match F_law fe [.frz []] [] with | .ok (.bl true) _ => true | _ => false) = true := by decide +kernel
theorem feB : FeB fe := ⟨by decide +kernel, by decide +kernel, fun _ => rfl, fun _ => rfl, fun _ => rfl⟩
theorem law_true (ns : List Int) (hl : ns.length ≤ 63) : Tot (F_law fe [.frz (ns.map .int)] []) fun v _ => v = .bl true := by
  by_cases hn : ns = []
  · subst hn
    have := law_nil
    rw [List.map_nil]
    split at this
    · rename_i m e
      rw [e]; rfl
    · cases this
  · exact law_wp feB ns hn hl
end K89
end
section
set_option Elab.async false
set_option linter.all false
set_option maxRecDepth 100000
set_option maxHeartbeats 2000000
/-! Ev: errors are made: a class without own __init__; a class whose __init__ says super().__init__('..') and stores its one argument. -/
namespace Ev
open PySem PySem.Spec PyProof.Rows L2
section
open PySem.W PySem.Calls PySem.HandSPX
/-- the def's text -/
abbrev supB (fld msg : Str) (j : Nat) (p0 p1 p2 p3 p4 p5 q1 q2 q3 q4 : Pos) : List Stmt :=
  [.Expr (.Call (.Attribute (.Call (.Name "super" p0) [] [] p1) "__init__" p2) [.Constant (.str msg) j p3] [] p4) p5, .Assign [.Attribute (.Name "self" q1) fld q2] (.Name fld q3) q4]
/-- what the written part says of the class and its __init__ -/
structure SupTxt (P : Program) (K : Frag) (mg : Str → Option Value) (cn fld : Str) (C fI : Addr) : Prop where
  gC : mg cn = some (.ref C)
  cls : ∃ nm q N bs bm sn sub ab col dd k0 k1 k2 k3 k5, K.lookup C = some (excClassObj nm q C N bs bm true sn sub ab col dd k0 k1 k2 k3 k5 "ValueError.__new__") ∧ refsVE bm = true
  sa : findIn K (.ref C) "__setattr__" = some (some (.builtin "object.__setattr__"))
  noN : findIn K (.ref C) fld = some none
  iC : findIn K (.ref C) "__init__" = some (some (.ref fI))
  tC : typeIn K (.ref fI) = some (.type "function")
  kC : keepIn K (.ref C) = true
  exC : subIn K (.ref C) (.type "BaseException") = some true
  veC : subIn K (.ref C) (.type "ValueError") = some true
  tyC : typeIn K (.ref C) = some (.type "type")
  mC : mroIn K C (.ref C) = some true
  sup : ks_superIn K C C "__init__" = some (some (.builtin "ValueError.__init__"))
  no : nsIn K cStatics "thirdparty.any" = some none
  nsup : nsIn K mainGlobals "super" = some none
  htop : (P.main.scope.names.lookup ("super" : Str)).isSome = false
  fn : ∃ (qual : Str) (params : Arguments) (msg : Str) (j : Nat) (p0 p1 p2 p3 p4 p5 q1 q2 q3 q4 : Pos) (sc : Scope) (oc : Value) (od : Option Addr) (doc pm : Value) (an : Option Addr) (cda : Addr) (ct : Value) (osl : Array (Option Value)) (cc : Addr)
      (ccl : Value) (cdd : Option Addr) (vs : Array Value) (ccs : Array (Option Value)) (file : Str) (tf : Tok) (cl : Value) (cld : Option Addr) (csl : Array (Option Value)) (ar : Arg),
    K.lookup fI = some ⟨oc, od, .func (ksFn "__init__" qual params (supB fld msg j p0 p1 p2 p3 p4 p5 q1 q2 q3 q4) sc .none .none doc pm an (.ref cda) ct cc), osl⟩ ∧ codeIn K (.ref cda) qual = true ∧
    K.lookup cda = some ⟨ccl, cdd, .fields vs, ccs⟩ ∧ vs[2]? = some (.str file tf) ∧ ((P.main.file : Str) == file) = true ∧ K.lookup cc = some ⟨cl, cld, .cell (some (.ref C)), csl⟩ ∧
    (params.posonlyargs ++ params.args).head? = some ar ∧ ar.arg = "self" ∧
    (∀ (s : Shared) (x v : Value), BindsTo s (ksFn "__init__" qual params (supB fld msg j p0 p1 p2 p3 p4 p5 q1 q2 q3 q4) sc .none .none doc pm an (.ref cda) ct cc) ⟨[x, v], []⟩ [("self", x), (fld, v)]) ∧
    (∀ x ∈ sc.names, x.2 ≠ .cell) ∧ sc.names.lookup ("self" : Str) = some .local ∧ sc.names.lookup fld = some .local ∧ sc.names.lookup ("super" : Str) = some .globalImplicit ∧ sc.names.lookup ("__class__" : Str) = some .free ∧
    sc.isCoroutine = false ∧ sc.isGenerator = false ∧ sc.kind = .function ∧ (fld == ("self" : Str)) = false ∧ (fld == ("__debug__" : Str)) = false ∧
    ∃ pl : PySem.Env → Sem Bool, ∀ env, eval (.Call (.Attribute (.Call (.Name "super" p0) [] [] p1) "__init__" p2) [.Constant (.str msg) j p3] [] p4) env = (do
      let ov ← attributeBase (.Call (.Name "super" p0) [] [] p1) "__init__" env (eval (.Call (.Name "super" p0) [] [] p1) env)
      standAt p2.atName
      let (f, first) ← holding [ov] (getMethod ov "__init__" (pl env))
      callWith p4 f first (backTo p4 (starEach [.Constant (.str msg) j p3] env)) [])
/-- what __init__ leaves of a fresh exception at x -/
structure SupEnd (h h' : Heap) (x C dx : Addr) (fld : Str) (v : Value) : Prop where
  keep : ∀ b o, b ≠ x → h.get? b = some o → h'.get? b = some o
  obj : ∃ t1, h'.get? x = some { cls := .ref C, dict := some dx, data := .fields #[.ref t1, .none, .none, .none, .bool false, .none] }
  dbig : h.objs.size ≤ dx
  dne : dx ≠ x
  ns : h'.Ns1 dx (fun y => if y = fld then some v else none)
variable {prog : Program} {w : World} {A : Around} {E : Value → Shared → Prop} {R : Result → Shared → Prop} {s : Shared} {K : Frag} {mg mb : Str → Option Value} {C fI : Addr} {cn fld : Str}
theorem call_mw {h : Heap} {g : Array GenState} {d : Drawn} {t : Nat} {os : OsState} {nm q : Str} {N : Addr} {bs bm bmB : List Value} {hdct : Bool} {sn : List Str} {sub : List Value} {ab : Bool} {col : Option Bool} {dd : Option Addr} {k0 k1 k2 k3 k5 : Option Value} {B newId i : String}
    (FB : ExcBaseFacts B newId i bmB) {u e t0 : Addr} {rest : List Value} {Q : Value → Shared → Prop}
    (hC : h.get? C = some (excClassObj nm q C N bs bm hdct sn sub ab col dd k0 k1 k2 k3 k5 newId)) (he : h.get? e = some (excO C t0)) (hu : h.get? u = some (kxs_mw i e)) (hrest : rest.length ≤ sizeLine)
    (hq : ∀ h' t1, (∀ b o, b ≠ e → h.get? b = some o → h'.get? b = some o) → h'.get? e = some (excO C t1) → Q .none ⟨h', g, d, t, os⟩) :
    wpAny (model prog w) A (call (.ref u) rest) Q E ⟨h, g, d, t, os⟩ := by
  refine wpAny_call (codeAny_of_tree ?_)
  show wpAny _ A.in1 (callAny (.ref u) ⟨rest, []⟩) _ _ _
  simp only [callAny]
  refine wpAny_bind (wpAny_load hu ?_)
  simp only [kxs_mw, show (Value.type "method-wrapper" == Value.type "method" || Value.type "method-wrapper" == Value.type "builtin_function_or_method" || Value.type "method-wrapper" == Value.type "method-wrapper") = true by decide, if_true]
  refine KFB.if_so (by decide) ?_
  refine wpAny_bind (check_bound_init FB.toExcCallFacts hC he rfl ?_)
  refine wpAny_bind (wpAny_pure (wpAny_pure ?_))
  refine ⟨plainId_quiet FB.init.plain _, codeAny_builtin FB.initEntry ?_⟩
  exact exc_init_tree (cls := .ref C) (t0 := t0) (dv := none) (c2 := .none) (c3 := .none) (b4 := .bool false) he hrest (fun h' k e' t' => hq h' _ k e')
theorem sup_init (T : SupTxt prog K mg cn fld C fI) {x t0 : Addr} {v : Value} (X : K.In s.heap) (G : s.heap.Ns mainGlobals mg) (B : s.heap.Ns builtinsNs mb) (hbb : ∀ y : Str, y ≠ "__name__" → mb y = bootBuiltins y) (hlim : s.heap.NoLimit)
    (hx : s.heap.get? x = some (excO C t0)) (hnx : K.lookup x = none) (hroom : A.depth < recursionLimit)
    (hq : ∀ h' tk dx, SupEnd s.heap h' x C dx fld v → R (.ok (.ret .none)) { s with heap := h', toks := tk }) :
    codeAny (model prog w) A (.call (.ref fI) ⟨[.ref x, v], []⟩) R s := by
  obtain ⟨qual, params, msg, j, p0, p1, p2, p3, p4, p5, q1, q2, q3, q4, sc, oc, od, doc, pm, an, cda, ct, osl, cc, ccl, cdd, vs, ccs, file, tf, cl, cld, csl, ar, ho, hcd, hcode, hvs, hfile, hcell, har, hself, hbind, hnc, l1, l2, l3, l4, hco, hgen, hk, hne, hdb, pl, hev⟩ := T.fn
  obtain ⟨nm, q, N, bs, bm, sn, sub, ab, col, dd, k0, k1, k2, k3, k5, hC, hbm⟩ := T.cls
  have hcl : clsIn K C = some { name := nm, bases := bs, mro := .ref C :: bm, ns := N, qualname := q, hasDict := true, slotNames := sn, subclasses := sub, abstract := ab, collection := col, hasDel := false } := by unfold clsIn; rw [hC] <;> rfl
  have hlf : ([("self", Value.ref x), (fld, v)] : List (Str × Value)).reverse.lookup fld = some v := by simp [List.lookup]
  have hls : ([("self", Value.ref x), (fld, v)] : List (Str × Value)).reverse.lookup ("self" : Str) = some (.ref x) := by
    have : (("self" : Str) == fld) = false := by rw [BEq.comm]; exact hne
    simp [List.lookup, this]
  refine ks_codeAny_call_defAt (binds := [("self", .ref x), (fld, v)]) hroom (X _ _ ho) rfl hlim (codeRec_of X hcd) rfl (hbind s (.ref x) v) hnc (fun y hy => ?_) (fun h₁ hns k => ?_) hco hgen hk
  · simp only [List.mem_cons, List.not_mem_nil, or_false] at hy
    rcases hy with rfl | rfl
    · exact l1
    · exact l2
  have X₁ : K.In h₁ := X.keeps k
  have hxC : x ≠ C := fun z => by rw [z, hC] at hnx; cases hnx
  obtain ⟨hh, g, d, tk, os⟩ := s
  dsimp only at *
  refine ks_wpAt_execs_cons (ks_wpAt_Expr_any (hi := by show (sc.kind == .module && _) = false; rw [hk]; rfl) (ks_wpAt_MethodCall (ks_wpAt_super_base (f := fI) (cc := cda) l3 l4 rfl rfl (X₁ _ _ ho) rfl har rfl (X₁ _ _ hcode) rfl hvs hfile T.htop ?_) (hev _)))
  refine ks_loadName_global hk l3 (loadGlobal_builtin (G.keeps k) (mg_none_of X G T.nsup) (B.keeps k) ((hbb _ (by decide +kernel)).trans (by first | boot_by_name | rfl | kernel_rfl)) ⟨rfl, ?_⟩)
  refine wpAny_loadName_free hk l4 rfl ⟨_, X₁ _ _ hcell, rfl⟩ ?_
  rw [hself]
  refine wpAny_loadName_local hk l1 hns hls ?_
  refine ks_wpAny_isType_cls (X₁ _ _ hC) rfl ⟨rfl, ?_⟩
  refine ks_wpAny_call_super (X₁ _ _ hC) rfl (k _ _ hx) rfl (fun c e => nomatch e) (looks_mroIn X₁ T.mC) (fun h₂ e2 k2 => ?_)
  have X₂ : K.In h₂ := X₁.keeps k2
  have hx₂ := k2 _ _ (k _ _ hx)
  have sup := T.sup
  unfold ks_superIn at sup
  rw [hcl] at sup
  have I₂ : InstAt h₂ x (excO C t0) C none := ⟨hx₂, rfl, rfl, trivial⟩
  refine kxs_getMethod kxs_ValueError e2 (looks_opaque X₂ T.no) (l₀ := .ref C :: bm) ?_ rfl X₂ sup (I₂.type.andThen (looks_subIn X₂ T.veC)) hxC rfl ?_
  · exact fun A Q E s k q => wpAny_bind ((looks_clsIn X₂ hcl) A _ E s k (wpAny_pure q))
  have hu : (h₂.push (kxs_mw "ValueError.__init__" x)).get? h₂.objs.size = some (kxs_mw "ValueError.__init__" x) := Heap.get?_push_at rfl rfl
  have k3 : ∀ b o, h₂.get? b = some o → (h₂.push (kxs_mw "ValueError.__init__" x)).get? b = some o := fun b o e => Heap.get?_push_of_some _ e
  refine kxs_callWith (i := "ValueError.__init__") (x := x) rfl (evalArgs_plain ?_)
  refine Calls.spliced_cons (wpAny_Constant_str (k := j) (pos := p3) (Calls.spliced_nil ?_))
  have X₃ : K.In (h₂.push (kxs_mw "ValueError.__init__" x)) := X₂.keeps k3
  refine ⟨hu, call_mw F.excBase_ValueError (X₃ _ _ hC) (k3 _ _ hx₂) hu (by show 1 ≤ sizeLine; rw [sizeLine_eq]; decide) fun h₄ t1 k4 hx₄ => ?_⟩
  have X₄ : K.In h₄ := fun a o e => k4 a o (fun z => by rw [z, hnx] at e; cases e) (X₃ a o e)
  have hxL : hh.objs.size ≠ x := Nat.ne_of_gt (Heap.lt_size hx)
  obtain ⟨oL, esL, epL, hL, rL⟩ := hns
  have hns₄ : h₄.Ns hh.objs.size (fun y => ([("self", Value.ref x), (fld, v)] : List (Str × Value)).reverse.lookup y) := ⟨oL, esL, epL, k4 _ _ hxL (k3 _ _ (k2 _ _ hL)), rL⟩
  -- self.f = f
  refine wpAt_of_wpAny (wpAny_execs_cons (plainObj_wpAny_Assign_Attribute ?_))
  refine ESX.ldL (v := v) hns₄ hlf (ESX.ldL (v := .ref x) hns₄ hls ?_ hk l1) hk l2 hdb
  refine set_plain X₄ (ox := excO C t1) (od := none) ⟨hx₄, rfl, rfl, trivial⟩ T.sa ?_
  refine exc_osa X₄ hx₄ hcl (show refsVE (.ref C :: bm) = true from hbm) rfl T.noN (fun h₅ tk₅ dx k₅ dn dne hx₅ hn₅ => ?_)
  have z : hh.objs.size < h₄.objs.size := Heap.lt_size (k4 _ _ hxL (k3 _ _ (k2 _ _ hL)))
  refine wpAny_execs_nil (hq h₅ tk₅ dx ⟨fun b o hb e => k₅ b o hb (k4 b o hb (k3 _ _ (k2 _ _ (k b o e)))), ⟨t1, hx₅⟩, Nat.le_of_lt (Nat.lt_of_lt_of_le z dn), dne, hn₅⟩)
/-- a made error -/
structure SupMade (h h' : Heap) (e C d : Addr) (fld : Str) (v : Value) : Prop where
  keep : ∀ b o, h.get? b = some o → h'.get? b = some o
  new : h.objs.size ≤ e
  obj : ∃ oe vs, h'.get? e = some oe ∧ oe.cls = .ref C ∧ oe.dict = some d ∧ oe.data = .fields vs ∧ vs[1]? = some .none
  dbig : h.objs.size ≤ d
  dne : d ≠ e
  ns : h'.Ns1 d (fun y => if y = fld then some v else none)
theorem sup_made (T : SupTxt prog K mg cn fld C fI) {v : Value} (X : K.In s.heap) (G : s.heap.Ns mainGlobals mg) (B : s.heap.Ns builtinsNs mb) (hbb : ∀ y : Str, y ≠ "__name__" → mb y = bootBuiltins y) (hlim : s.heap.NoLimit)
    (hroom : A.depth + 1 < recursionLimit) (hq : ∀ h' tk e d, SupMade s.heap h' e C d fld v → R (.ok (.ret (.ref e))) { s with heap := h', toks := tk }) :
    codeAny (model prog w) A (.call (.ref C) ⟨[v], []⟩) R s := by
  obtain ⟨nm, q, N, bs, bm, sn, sub, ab, col, dd, k0, k1, k2, k3, k5, hC, hbm⟩ := T.cls
  obtain ⟨hp, g, dr, tk, os⟩ := s
  have k : ∀ b o, hp.get? b = some o → ((hp.push (kdv_tup [v])).push (excO C hp.objs.size)).get? b = some o := fun b o e => Heap.get?_push_of_some _ (Heap.get?_push_of_some _ e)
  have hget : ((hp.push (kdv_tup [v])).push (excO C hp.objs.size)).get? (hp.objs.size + 1) = some (excO C hp.objs.size) := by heap_get
  have hnx : K.lookup (hp.objs.size + 1) = none := by
    cases e : K.lookup (hp.objs.size + 1) with
    | none => rfl
    | some o =>
      have z : hp.get? (hp.objs.size + 1) = some o := X _ _ e
      exact absurd (Nat.lt_of_succ_lt (Heap.lt_size z)) (Nat.lt_irrefl _)
  refine call_own F.excBase_ValueError (fun X => refsVE_contains X bm hbm) (X _ _ hC) (looks_findIn X T.iC) (fun self => bind_fn X self T.tC) (by show 1 ≤ sizeLine; rw [sizeLine_eq]; decide) ?_
  refine sup_init (s := ⟨(hp.push (kdv_tup [v])).push (excO C hp.objs.size), g, dr, tk, os⟩) T (X.keeps k) (G.keeps k) (B.keeps k) hbb (hlim.keeps k) hget hnx ?_ fun h' tk' dx ⟨k', ⟨t1, hx⟩, dn, dne, hns⟩ => ?_
  · show A.depth + 1 < recursionLimit
    exact hroom
  · have old : ∀ b o, hp.get? b = some o → h'.get? b = some o := fun b o e => k' b o (Nat.ne_of_lt (Nat.lt_succ_of_lt (Heap.lt_size e))) (k b o e)
    have z : hp.objs.size + 1 + 1 ≤ dx := by
      first
        | (simpa only [Heap.size_push] using dn)
        | exact dn
        | (have q := dn; rw [Heap.size_push, Heap.size_push] at q; exact q)
    exact ⟨rfl, hq h' tk' (hp.objs.size + 1) dx ⟨old, Nat.le_succ _, ⟨_, _, hx, rfl, rfl, rfl, rfl⟩, Nat.le_trans (Nat.le_trans (Nat.le_succ _) (Nat.le_succ _)) z, dne, hns⟩⟩
end
theorem relO_one {v : V} {v' : Value} {fld : Str} (r : RelV v v') (f : Str) : RelO (List.lookup f [(fld, v)]) (if f = fld then some v' else none) := by
  by_cases hw : f = fld
  · subst hw
    rw [if_pos rfl]
    have q : List.lookup f [(f, v)] = some v := by simp [List.lookup]
    rw [q]
    exact r
  · rw [if_neg hw]
    have qw : (f == fld) = false := by simpa using hw
    have q2 : List.lookup f [(fld, v)] = none := by simp [List.lookup, qw]
    rw [q2]
    trivial
/-- the reading of a list of arguments, made monotone -/
theorem PA.mon {X : Cx} {es : List Expr} {ta : TA} (h : PA X es ta) : PA X es fun σ H R => ∃ R0, ta σ H R0 ∧ ∀ vs H1, R0 vs H1 → R vs H1 :=
  ⟨fun pos pins s σ H R I ⟨R0, h0, k⟩ => thn (h.run pos pins s σ H R0 I h0) fun us s1 ⟨vs, H1, I1, r, q⟩ => ⟨vs, H1, I1, r, k _ _ q⟩⟩
theorem permL_id1 {vs ws : List V} (hl : vs.length = 1) (h : permL [0] vs = some ws) : ws = vs := by
  match vs, hl with
  | [v], _ => cases h; rfl
theorem mkOk_sup {g : RC} {C fI : Addr} {cn fld : Str} (T : SupTxt g.P g.K g.mg cn fld C fI) (hdb : (cn == ("__debug__" : Str)) = false := by decide) : MkOk g 1 cn 1 [fld] [0] := by
  refine ⟨C, T.gC, fun X p pos e es ta hK hmg hP hr hg hn ha he hpl => ?_⟩
  intro pins s σ H Q I h
  rw [← hK, ← hmg, ← hP] at T
  refine wpAny_Call_Name_kw (ld_glob I hg T.gC ?_ hdb)
  refine PySem.W.callWith_K (h₀ := X.base) I.ok.mod.kin T.kC (thn (ha.run pos pins s σ H _ I h) fun us s1 hh => ?_) he hpl
  obtain ⟨vs, H1, I1, r1, hl, ws, hw, q1⟩ := hh
  obtain rfl := permL_id1 hl hw
  refine ⟨I1.kIn, ?_⟩
  match ws, us, r1, hl with
  | [v], [v'], .cons rv .nil, _ =>
    show wpAny _ _ (call (.ref C) [v']) _ _ _
    have hlim := I1.nolimit
    have M0 := I1.env0.mod
    obtain ⟨mb, hB, hbb⟩ := M0.blt
    have up : ∀ {b m}, (X.base).Ns b m → s1.heap.Ns b m := fun {b m} ⟨o, es, ep, e, d, r⟩ => ⟨o, es, ep, (I1.env0.bs b o e).1, d, r⟩
    obtain ⟨hp, gn, dr, tk, os⟩ := s1
    refine wpAny_call (sup_made T I1.kIn (up M0.glob) (up hB) hbb hlim (by have := hr.dp; omega) fun h' tk' e d M => ?_)
    show MkP X pins σ Q (.ref e) ⟨h', gn, dr, tk', os⟩
    obtain ⟨oe, fv, hoe, hc, hd, hdat, h1⟩ := M.obj
    have hns := M.ns
    obtain ⟨G', g1, g2⟩ := restrict h' fun b => decide (b ≠ e)
    have gk : ∀ b, b ≠ e → G'.get? b = h'.get? b := fun b hb => g1 b (decide_eq_true hb)
    have ge : G'.get? e = none := g2 e (by simp)
    have old : ∀ b o, hp.get? b = some o → G'.get? b = some o := fun b o q => (gk b (Nat.ne_of_lt (Nat.lt_of_lt_of_le (Heap.lt_size q) M.new))).trans (M.keep b o q)
    have ob : ObjOk X.prog X.w (upd H1 d (.xd [(fld, v)])) G' d (.xd [(fld, v)]) :=
      ⟨_, hns.at (fun o q => (gk d M.dne).trans q), fun f => relO_one rv f⟩
    have J : L2.Inv X pins σ (upd H1 d (.xd [(fld, v)])) ⟨G', gn, dr, tk', os⟩ := I1.laid (t' := tk') old M.dbig ob
    have q2 : Q (.ref C) (some d) (upd H1 d (.xd [(fld, v)])) := by
      rcases q1 with ⟨z, _⟩ | ⟨_, z⟩
      · cases z
      · exact z d (I1.hok.fresh M.dbig)
    refine ⟨e, oe, fv, ⟨G', gn, dr, tk', os⟩, _, .ref C, some d, rfl, J, fun b o q => ?_, ge, hoe, ⟨hc, hd⟩, hdat, h1, ?_, rfl, I1.bare, raises_own T.exC T.tyC, q2⟩
    · by_cases hb : b = e
      · have q' : G'.get? b = some o := q
        rw [hb, ge] at q'; cases q'
      · exact (gk b hb).symm.trans q
    · rw [upd_ne (Ne.symm M.dne)]
      exact I1.hok.fresh M.new
/-- a class without own __init__ -/
theorem mkOk_plain {g : RC} {C : Addr} {cn : Str} (q : PySem.W.excIn g.K C [.type "ValueError", .type "Exception", .type "BaseException", .type "object"] "ValueError.__new__" = true) (gC : g.mg cn = some (.ref C)) (kC : PySem.W.keepIn g.K (.ref C) = true) (h1 : PySem.W.subIn g.K (.ref C) (.type "BaseException") = some true) (h2 : PySem.W.typeIn g.K (.ref C) = some (.type "type"))
    (hdb : (cn == ("__debug__" : Str)) = false := by decide) : MkOk g 1 cn 1 [] [] := by
  refine ⟨C, gC, fun X p pos e es ta hK hmg hP hr hg hn ha he hpl => ?_⟩
  have := pmk_ownA (X := X) F.excBase_ValueError (by rw [hK]; exact q) (by rw [hmg]; exact gC) (by rw [hK]; exact kC) (raises_own (by rw [hK]; exact h1) (by rw [hK]; exact h2)) hg (PA.mon ha) hdb he hpl (p := p) (pos := pos)
  intro pins s σ H Q I h
  refine this pins s σ H Q I ⟨_, h, fun vs H1 ⟨hl, ws, _, z⟩ => ⟨by rw [hl]; decide, ?_⟩⟩
  rcases z with ⟨_, z⟩ | ⟨z, _⟩
  · exact z
  · exact absurd rfl z
end Ev
end
section
set_option Elab.async false
set_option linter.all false
set_option maxRecDepth 100000
set_option maxHeartbeats 2000000
/-! Ev: a law's end, from what it computes. -/
namespace Ev
open PySem PySem.Spec PyProof.Rows L2
theorem FnG.up {P : Program} {w : World} {K : PySem.W.Frag} {mg : Str → Option Value} {base : Heap} {gd : Bool} {k : Nat} {f : Addr} {fd : FuncData} {ps : List Str} {sp : Sp} (F : FnG P w K mg base gd k f fd ps sp) : FnG P w K mg base true k f fd ps sp :=
  ⟨F.len, fun A out st H args us vs Q E hr hg => F.go A out st H args us vs Q E hr fun _ => hg rfl⟩
theorem dnl_ints {c : RC} {H : Hp} : ∀ ns : List Int, DnL c H (ns.map D.int) (ns.map V.int)
  | [] => by simp [DnL]
  | n :: ns => by
    rw [List.map_cons, List.map_cons, DnL]
    exact ⟨by rw [Dn], dnl_ints ns⟩
/-- a law with lambdas -/
theorem lawG_of {l : PySem.W.OpenLaw} {w : World} {K : PySem.W.Frag} {mg : Str → Option Value} {k n : Nat} {fa : Addr} {h : Heap} {st : Stmt} {fx : List D → M D} {gd : Bool} {c P : Addr}
    (hmg : mg "law" = some (.ref fa)) (d : ∃ f fd, L2.Fun K "law" "law" st f fd ∧ mg "law" = some (.ref f) ∧ L2.Binds K fd ["script"] []) (hT : PySem.W.CodeHd h c P ∧ h.get? P = some { cls := .none, data := .fields #[] }) (nT : K.lookup P = none) (hbt : ∀ f fd, L2.Fun K "law" "law" st f fd → ∀ (s : Shared) (u : Value), BindsTo s fd ⟨[u], []⟩ [("script", u)]) (KX : K.In h)
    (hF : ∀ base : Heap, K.In base → base.Ns mainGlobals mg → LamT base ⟨K, mg, [(P, ("law" : PySem.Str) ++ ".<locals>." ++ "<lambda>")], [], [], l.prog⟩ c P (("law" : PySem.Str) ++ ".<locals>.") → CalG l.prog w ⟨K, mg, [(P, ("law" : PySem.Str) ++ ".<locals>." ++ "<lambda>")], [], [], l.prog⟩ base gd k "law" st ["script"] fx)
    (ht : ∀ ns : List Int, ns.length ≤ n → Tot (fx [.frz (ns.map .int)] []) fun v _ => v = .bl true) : LawG l w K k n "script" mg fa h := by
  obtain ⟨f, fd, F, hm, hb⟩ := d
  have ef : f = fa := by rw [hmg] at hm; cases hm; rfl
  subst ef
  refine ⟨fd, [(c, P)], spD ⟨K, mg, [(P, ("law" : PySem.Str) ++ ".<locals>." ++ "<lambda>")], [], [], l.prog⟩ 1 fx, fun p hp => ?_, fun p hp => ?_, fun p hp => ?_, fun s u => ?_, fun H a ns hl _ hH hS => ?_, fun base k1 k2 k3 => ?_⟩
  · rw [List.mem_singleton] at hp; subst hp; exact hT.2
  · rw [List.mem_singleton] at hp; subst hp; exact nT
  · rw [List.mem_singleton] at hp; subst hp; exact hT.1
  · exact hbt _ _ F s u
  · refine ⟨rfl, [], [], [], [.frz (ns.map .int)], ⟨rfl, fun i a o e => (by simp at e), by simp, fun a z => (by simp at z), fun a z => (by simp at z), fun p hp => ?_⟩, ⟨⟨a, ns.map V.int, rfl, ?_, dnl_ints ns⟩, by simp [DnL]⟩, ?_⟩
    · rw [List.mem_singleton] at hp; subst hp
      refine ⟨#[], hH (c, P) (List.mem_singleton.mpr rfl), ?_, fun pos cv z => ?_⟩
      · trivial
      · cases z
    · rcases hS with hS | hS
      · exact .inl ⟨⟨by simp, by simp⟩, hS⟩
      · exact .inr hS
    · obtain ⟨v, m, e, ev⟩ := (ht ns hl).ex
      show PostG Dn _ H (fx _ []) _ _
      rw [e, ev]
      intro ρ' H' b x hd hm
      exact hd
  · obtain ⟨f', fd', F', hm', G, _⟩ := (hF base k1 k2 ⟨k3 (c, P) (List.mem_singleton.mpr rfl), List.mem_singleton.mpr rfl, fun p hp _ => by rw [List.mem_singleton] at hp; rw [hp]⟩).ex
    have hm' : mg "law" = some (.ref f') := hm'
    have ef : f' = f := by rw [hmg] at hm'; cases hm'; rfl
    subst ef
    have efd : fd' = fd := by
      obtain ⟨oc, od, kV, doc, pm, an, cdv, ct, osl, e1, e2, e3⟩ := F.ex
      obtain ⟨oc', od', kV', doc', pm', an', cdv', ct', osl', e1', e2', e3'⟩ := F'.ex
      have : K.lookup f' = some _ := e2'
      rw [e2] at this
      cases this
      rw [e1]
    subst efd
    exact G.up
end Ev
end
section
set_option Elab.async false
set_option linter.all false
set_option maxRecDepth 100000
set_option maxHeartbeats 2000000
/-! Ev: what the walk asks of the written part, from its words. -/
namespace Ev
open PySem PySem.Spec PyProof.Rows L2
section
open PySem.W
variable {K : Frag} {h : Heap} {mg : Str → Option Value} {n : Str} {st : Stmt} {f : Addr} {oc kV dc pm cd ct : Value} {od an : Option Addr} {sl : Array (Option Value)} {ps : List Str}
theorem d_of (X : K.In h) (G : h.Ns mainGlobals mg) (a : nsIn K mainGlobals n = some (some (.ref f))) (l : K.lookup f = some ⟨oc, od, .func (fnOf n n (defArgs st) (defBody st) (defScope st) .none kV dc pm an cd ct), sl⟩) (c : codeIn K cd n = true) (k : keepIn K (.ref f) = true)
    (hb : ∀ (kV doc pm : Value) (an : Option Addr) (cdv ct : Value) (us : List Value), us.length = ps.length → bindArgs (fnOf n n (defArgs st) (defBody st) (defScope st) .none kV doc pm an cdv ct) ⟨us, []⟩ = pure (ps.zip us)) :
    ∃ f fd, L2.Fun K n n st f fd ∧ mg n = some (.ref f) ∧ L2.Binds K fd ps [] := by
  have F := fun_mk (st := st) l c k
  exact ⟨_, _, F, mg_of X G a, F.binds hb⟩
theorem m_of (X : K.In h) (G : h.Ns mainGlobals mg) (a : nsIn K mainGlobals n = some (some (.ref f))) : mg n = some (.ref f) := mg_of X G a
theorem cS_of {s : Str} {tk : Tok} (X : K.In h) (G : h.Ns mainGlobals mg) (a : nsIn K mainGlobals n = some (some (.str s tk))) : ∃ u, mg n = some u ∧ RelV (.str s) u := ⟨_, mg_of X G a, ⟨tk, rfl⟩⟩
theorem cI_of {s : Int} {tk : Tok} (X : K.In h) (G : h.Ns mainGlobals mg) (a : nsIn K mainGlobals n = some (some (.int s tk))) : ∃ u, mg n = some u ∧ RelV (.int s) u := ⟨_, mg_of X G a, ⟨tk, rfl⟩⟩
theorem tab_mk {cA P : Addr} {ccl : Value} {cdd : Option Addr} {vs : Array Value} {ccs : Array (Option Value)} {qual : Str} (X : K.In h) (a : nsIn K mainGlobals n = some (some (.ref f))) (l : K.lookup f = some ⟨oc, od, .func (fnOf n qual (defArgs st) (defBody st) (defScope st) .none kV dc pm an (.ref cA) ct), sl⟩)
    (lc : K.lookup cA = some ⟨ccl, cdd, .fields vs, ccs⟩) (hv : vs[11]? = some (.ref P)) : tabIn K n = some (cA, P) := by
  unfold tabIn
  rw [a]
  dsimp only
  rw [l]
  dsimp only [fnOf]
  rw [lc]
  dsimp only
  rw [hv]
theorem bt_of {x : Str} (hb : ∀ (s : Shared) (u kV doc pm : Value) (an : Option Addr) (cdv ct : Value), BindsTo s (fnOf n n (defArgs st) (defBody st) (defScope st) .none kV doc pm an cdv ct) ⟨[u], []⟩ [(x, u)]) : ∀ f fd, L2.Fun K n n st f fd → ∀ (s : Shared) (u : Value), BindsTo s fd ⟨[u], []⟩ [(x, u)] := fun f fd F s u => by
  obtain ⟨oc, od, kV, doc, pm, an, cdv, ct, osl, rfl, _⟩ := F.ex
  exact hb s u kV doc pm an cdv ct
theorem noC {cA : Addr} (d : ∃ f fd, L2.Fun K n n st f fd ∧ mg n = some (.ref f) ∧ L2.Binds K fd ps [] ∧ fd.code = .ref cA) : ∃ f fd, L2.Fun K n n st f fd ∧ mg n = some (.ref f) ∧ L2.Binds K fd ps [] := by
  obtain ⟨f, fd, a, b, c, _⟩ := d
  exact ⟨f, fd, a, b, c⟩
@[reducible] def gk {cA P : Addr} (X : K.In h) (tb : tabIn K "law" = some (cA, P)) (mg : Str → Option Value) (prog : Program) : RC := ⟨K, mg, [(P, ("law" : PySem.Str) ++ ".<locals>." ++ "<lambda>")], [], [], prog⟩
theorem ex_of (a : mg n = some (.ref f)) : ∃ A, mg n = some (.ref A) := ⟨f, a⟩
theorem dl_of {cA : Addr} (X : K.In h) (G : h.Ns mainGlobals mg) (a : nsIn K mainGlobals n = some (some (.ref f))) (l : K.lookup f = some ⟨oc, od, .func (fnOf n n (defArgs st) (defBody st) (defScope st) .none kV dc pm an (.ref cA) ct), sl⟩) (c : codeIn K (.ref cA) n = true) (k : keepIn K (.ref f) = true)
    (hb : ∀ (kV doc pm : Value) (an : Option Addr) (cdv ct : Value) (us : List Value), us.length = ps.length → bindArgs (fnOf n n (defArgs st) (defBody st) (defScope st) .none kV doc pm an cdv ct) ⟨us, []⟩ = pure (ps.zip us)) :
    ∃ f fd, L2.Fun K n n st f fd ∧ mg n = some (.ref f) ∧ L2.Binds K fd ps [] ∧ fd.code = .ref cA := by
  have F := fun_mk (st := st) l c k
  exact ⟨_, _, F, mg_of X G a, F.binds hb, rfl⟩
/-! ### classes -/
def excCB (K : Frag) (D : Addr) : Bool := (findIn K (.ref D) "__getattribute__" == some (some (.builtin "BaseException.__getattribute__"))) && (findIn K (.ref D) "__getattr__" == some none) && (subIn K (.ref D) (.type "BaseException") == some true) && hasDictIn K D &&
  (findIn K (.ref D) "__class__" == some (some (.builtin "object.__class__"))) && (specialIn K (.builtin "object.__class__") "__get__" == some (some (.builtin "getset_descriptor.__get__"))) && (takesIn K (.builtin "object.__class__") == some true) && (mroIn K D (.type "object") == some true)
theorem excC_of {D : Addr} (h : excCB K D = true) : ExcC K D := by
  simp only [excCB, Bool.and_eq_true, beq_iff_eq] at h
  obtain ⟨⟨⟨⟨⟨⟨⟨h1, h2⟩, h3⟩, h4⟩, h5⟩, h6⟩, h7⟩, h8⟩ := h
  exact ⟨h1, h2, h3, h4, h5, h6, h7, h8⟩
def tysB (K : Frag) (A : Addr) : Bool := tyNs.all fun t => (kitOne K (.type t) (.ref A) == some false) && (kitOne K (.ref A) (.type t) == some false)
/-- all that is asked of the classes, by their places -/
def clsB (K : Frag) (fe : FE) (as : List (Str × Addr)) : Bool :=
  (fe.cls.all fun p => match as.lookup p.1 with
    | some A => p.2 && excCB K A && tysB K A && fe.cls.all fun q => match as.lookup q.1 with
      | some A' => kitOne K (.ref A) (.ref A') == some (fe.sub p.1 q.1)
      | none => false
    | none => false) && fe.fl.all fun q => match as.lookup q.1 with
    | some A => findIn K (.ref A) q.2 == some none
    | none => false
theorem clsOk_of {g : RC} {fe : FE} (as : List (Str × Addr)) (hg : ∀ p ∈ as, g.mg p.1 = some (.ref p.2)) (hB : clsB g.K fe as = true) : ClsOk g fe := by
  have look : ∀ {C A}, as.lookup C = some A → g.mg C = some (.ref A) := fun {C A} e => by
    have := hg (C, A) (by
      clear hg hB
      induction as with
      | nil => cases e
      | cons p ps ih =>
        rw [List.lookup_cons] at e
        split at e
        · rename_i q; cases e; rw [beq_iff_eq] at q; subst q; exact List.mem_cons_self
        · exact List.mem_cons_of_mem _ (ih e))
    exact this
  simp only [clsB, Bool.and_eq_true] at hB
  obtain ⟨h1, h2⟩ := hB
  have one : ∀ C b, (C, b) ∈ fe.cls → ∃ A, as.lookup C = some A ∧ b = true ∧ excCB g.K A = true ∧ tysB g.K A = true ∧ ∀ C' b', (C', b') ∈ fe.cls → ∃ A', as.lookup C' = some A' ∧ kitOne g.K (.ref A) (.ref A') = some (fe.sub C C') := fun C b hC => by
    have := List.all_eq_true.mp h1 (C, b) hC
    dsimp only at this
    split at this
    · rename_i A e
      simp only [Bool.and_eq_true] at this
      obtain ⟨⟨⟨b1, b2⟩, b3⟩, b4⟩ := this
      refine ⟨A, e, b1, b2, b3, fun C' b' hC' => ?_⟩
      have := List.all_eq_true.mp b4 (C', b') hC'
      dsimp only at this
      split at this
      · rename_i A' e'
        exact ⟨A', e', beq_iff_eq.mp this⟩
      · cases this
    · cases this
  refine ⟨fun C b hC => ?_, fun C b C' b' A A' hC hC' hA hA' => ?_, fun C b A hC hA t ht => ?_, fun C b A hC hA t ht => ?_, fun C f A hf hA => ?_⟩
  · obtain ⟨A, e, rfl, h3, _, _⟩ := one C b hC
    exact ⟨A, look e, (fun z => Bool.noConfusion z), fun _ => excC_of h3⟩
  · obtain ⟨A1, e, _, _, _, h5⟩ := one C b hC
    obtain ⟨A2, e2, h6⟩ := h5 C' b' hC'
    have z1 := look e
    have z2 := look e2
    rw [hA] at z1; rw [hA'] at z2
    cases z1; cases z2
    exact h6
  · obtain ⟨A1, e, _, _, h4, _⟩ := one C b hC
    have z1 := look e
    rw [hA] at z1; cases z1
    have := List.all_eq_true.mp h4 t ht
    simp only [Bool.and_eq_true, beq_iff_eq] at this
    exact this.1
  · obtain ⟨A1, e, _, _, h4, _⟩ := one C b hC
    have z1 := look e
    rw [hA] at z1; cases z1
    have := List.all_eq_true.mp h4 t ht
    simp only [Bool.and_eq_true, beq_iff_eq] at this
    exact this.2
  · have := List.all_eq_true.mp h2 (C, f) hf
    dsimp only at this
    split at this
    · rename_i A1 e
      have z1 := look e
      rw [hA] at z1; cases z1
      exact beq_iff_eq.mp this
    · cases this
theorem all_nil {mg : Str → Option Value} : ∀ p ∈ ([] : List (Str × Addr)), mg p.1 = some (.ref p.2) := fun p z => nomatch z
theorem all_cons {mg : Str → Option Value} {C : Str} {A : Addr} {as : List (Str × Addr)} (h1 : mg C = some (.ref A)) (h2 : ∀ p ∈ as, mg p.1 = some (.ref p.2)) : ∀ p ∈ (C, A) :: as, mg p.1 = some (.ref p.2) := fun p hp => by
  rcases List.mem_cons.mp hp with rfl | hp
  · exact h1
  · exact h2 p hp
/-! ### errors that are made -/
def mkB (K : Frag) (A : Addr) : Bool := excIn K A [.type "ValueError", .type "Exception", .type "BaseException", .type "object"] "ValueError.__new__" && keepIn K (.ref A) && (subIn K (.ref A) (.type "BaseException") == some true) && (typeIn K (.ref A) == some (.type "type"))
theorem mk_of {g : RC} {C : Str} {A : Addr} (hm : g.mg C = some (.ref A)) (hB : mkB g.K A = true) (hdb : (C == ("__debug__" : Str)) = false := by decide) : MkOk g 1 C 1 [] [] := by
  simp only [mkB, Bool.and_eq_true, beq_iff_eq] at hB
  obtain ⟨⟨⟨h1, h2⟩, h3⟩, h4⟩ := hB
  exact mkOk_plain h1 hm h2 h3 h4 hdb
theorem hI_of {C fI : Addr} (X : K.In h) (m : mg n = some (.ref C)) (a : findIn K (.ref C) "__init__" = some (some (.ref fI))) : findIn K (.ref C) "__init__" = some (some (.ref fI)) := a
theorem lC_of {C : Addr} {o : Obj} (X : K.In h) (m : mg n = some (.ref C)) (a : K.lookup C = some o) : K.lookup C = some o := a
theorem lI_of {C fI : Addr} {o : Obj} (X : K.In h) (m : findIn K (.ref C) "__init__" = some (some (.ref fI))) (a : K.lookup fI = some o) : K.lookup fI = some o := a
section
variable {fI cda cc : Addr} {nm qual : Str} {params : Arguments} {body : List Stmt} {sc : Scope} {dV doc pm : Value} {osl : Array (Option Value)} {o : Obj}
theorem i4_of (X : K.In h) (_ : K.lookup fI = some ⟨oc, od, .func (ksFn nm qual params body sc dV kV doc pm an (.ref cda) ct cc), osl⟩) (a : codeIn K (.ref cda) qual = true) : codeIn K (.ref cda) qual = true := a
theorem i5_of (X : K.In h) (_ : K.lookup fI = some ⟨oc, od, .func (ksFn nm qual params body sc dV kV doc pm an (.ref cda) ct cc), osl⟩) (a : K.lookup cda = some o) : K.lookup cda = some o := a
theorem i6_of (X : K.In h) (_ : K.lookup fI = some ⟨oc, od, .func (ksFn nm qual params body sc dV kV doc pm an (.ref cda) ct cc), osl⟩) (a : K.lookup cc = some o) : K.lookup cc = some o := a
end
def supB' (P : Program) (K : Frag) (fld : Str) (C fI : Addr) : Bool := (findIn K (.ref C) "__setattr__" == some (some (.builtin "object.__setattr__"))) && (findIn K (.ref C) fld == some none) && (findIn K (.ref C) "__init__" == some (some (.ref fI))) && (typeIn K (.ref fI) == some (.type "function")) &&
  keepIn K (.ref C) && (subIn K (.ref C) (.type "BaseException") == some true) && (subIn K (.ref C) (.type "ValueError") == some true) && (typeIn K (.ref C) == some (.type "type")) && (mroIn K C (.ref C) == some true) && (ks_superIn K C C "__init__" == some (some (.builtin "ValueError.__init__"))) &&
  (nsIn K cStatics "thirdparty.any" == some none) && (nsIn K mainGlobals "super" == some none) && !(P.main.scope.names.lookup ("super" : Str)).isSome
theorem supTxt_of {P : Program} {cn fld : Str} {C fI : Addr} (hm : mg cn = some (.ref C)) (hI : findIn K (.ref C) "__init__" = some (some (.ref fI))) (hB : supB' P K fld C fI = true)
    {nm q : Str} {N : Addr} {bs bm : List Value} {sn : List Str} {sub : List Value} {ab : Bool} {col : Option Bool} {dd : Option Addr} {k0 k1 k2 k3 k5 : Option Value} (lC : K.lookup C = some (excClassObj nm q C N bs bm true sn sub ab col dd k0 k1 k2 k3 k5 "ValueError.__new__")) (hbm : HandSPX.refsVE bm = true)
    {qual : Str} {params : Arguments} {msg : Str} {j : Nat} {p0 p1 p2 p3 p4 p5 q1 q2 q3 q4 : Pos} {sc : Scope} {oc : Value} {od : Option Addr} {doc pm : Value} {an : Option Addr} {cda : Addr} {ct : Value} {osl : Array (Option Value)} {cc : Addr}
    {ccl : Value} {cdd : Option Addr} {vs : Array Value} {ccs : Array (Option Value)} {file : Str} {tf : Tok} {cl : Value} {cld : Option Addr} {csl : Array (Option Value)} {ar : Arg}
    (lI : K.lookup fI = some ⟨oc, od, .func (ksFn "__init__" qual params (supB fld msg j p0 p1 p2 p3 p4 p5 q1 q2 q3 q4) sc .none .none doc pm an (.ref cda) ct cc), osl⟩) (cI : codeIn K (.ref cda) qual = true)
    (lc : K.lookup cda = some ⟨ccl, cdd, .fields vs, ccs⟩) (hvs : vs[2]? = some (.str file tf)) (hfile : ((P.main.file : Str) == file) = true) (lcc : K.lookup cc = some ⟨cl, cld, .cell (some (.ref C)), csl⟩)
    (har : (params.posonlyargs ++ params.args).head? = some ar) (hself : ar.arg = "self")
    (hbind : ∀ (s : Shared) (x v : Value), BindsTo s (ksFn "__init__" qual params (supB fld msg j p0 p1 p2 p3 p4 p5 q1 q2 q3 q4) sc .none .none doc pm an (.ref cda) ct cc) ⟨[x, v], []⟩ [("self", x), (fld, v)])
    (hnc : ∀ x ∈ sc.names, x.2 ≠ .cell) (l1 : sc.names.lookup ("self" : Str) = some .local) (l2 : sc.names.lookup fld = some .local) (l3 : sc.names.lookup ("super" : Str) = some .globalImplicit) (l4 : sc.names.lookup ("__class__" : Str) = some .free)
    (hk : sc.isCoroutine = false ∧ sc.isGenerator = false ∧ sc.kind = .function ∧ (fld == ("self" : Str)) = false ∧ (fld == ("__debug__" : Str)) = false)
    {pl : PySem.Env → Sem Bool} (hev : ∀ env, eval (.Call (.Attribute (.Call (.Name "super" p0) [] [] p1) "__init__" p2) [.Constant (.str msg) j p3] [] p4) env = (do
      let ov ← attributeBase (.Call (.Name "super" p0) [] [] p1) "__init__" env (eval (.Call (.Name "super" p0) [] [] p1) env)
      standAt p2.atName
      let (f, first) ← holding [ov] (getMethod ov "__init__" (pl env))
      callWith p4 f first (backTo p4 (starEach [.Constant (.str msg) j p3] env)) [])) : SupTxt P K mg cn fld C fI := by
  simp only [supB', Bool.and_eq_true, beq_iff_eq, Bool.not_eq_true'] at hB
  obtain ⟨⟨⟨⟨⟨⟨⟨⟨⟨⟨⟨⟨h1, h2⟩, h3⟩, h4⟩, h5⟩, h6⟩, h7⟩, h8⟩, h9⟩, h10⟩, h11⟩, h12⟩, h13⟩ := hB
  exact ⟨hm, ⟨_, _, _, _, _, _, _, _, _, _, _, _, _, _, _, lC, hbm⟩, h1, h2, h3, h4, h5, h6, h7, h8, h9, h10, h11, h12, h13,
    ⟨_, _, _, _, _, _, _, _, _, _, _, _, _, _, _, _, _, _, _, _, _, _, _, _, _, _, _, _, _, _, _, _, _, _, lI, cI, lc, hvs, hfile, lcc, har, hself, hbind, hnc, l1, l2, l3, l4, hk.1, hk.2.1, hk.2.2.1, hk.2.2.2.1, hk.2.2.2.2, pl, hev⟩⟩
def catchB (K : Frag) (fe : FE) (as : List (Str × Addr)) (CS : Addr) : Bool := fe.cls.all fun p => !p.2 || !fe.sub p.1 fe.base || match as.lookup p.1 with
  | some A => exmOne K (.ref A) (.ref CS) == some true
  | none => false
theorem catch_of {g : RC} {fe : FE} (as : List (Str × Addr)) {CS : Addr} (hg : ∀ p ∈ as, g.mg p.1 = some (.ref p.2)) (hB : catchB g.K fe as CS = true) : CatchOk g fe CS := fun C A hC hs hA => by
  have := List.all_eq_true.mp hB (C, true) hC
  simp only [Bool.not_true, hs, Bool.false_or] at this
  split at this
  · rename_i A' e
    have z : g.mg C = some (.ref A') := hg (C, A') (by
      clear hg hB this
      induction as with
      | nil => cases e
      | cons p ps ih =>
        rw [List.lookup_cons] at e
        split at e
        · rename_i q; cases e; rw [beq_iff_eq] at q; subst q; exact List.mem_cons_self
        · exact List.mem_cons_of_mem _ (ih e))
    rw [hA] at z; cases z
    exact beq_iff_eq.mp this
  · cases this
theorem caught_of {g : RC} {fe : FE} {st : Stmt} {CS : Addr} (d : ∃ f fd, L2.Fun g.K "_law_caught" "_law_caught" st f fd ∧ g.mg "_law_caught" = some (.ref f) ∧ L2.Binds g.K fd ["work"] []) (hC : g.mg fe.base = some (.ref CS)) (hk : CatchOk g fe CS) : CaughtT g fe st := by
  obtain ⟨f, fd, h1, h2, h3⟩ := d
  exact ⟨f, fd, CS, h1, h2, h3, hC, hk⟩
end
end Ev
end
set_option Elab.async false
set_option linter.all false
set_option maxRecDepth 100000
open PySem PySem.W PyProof.Rows
set_option maxRecDepth 100000 in
set_option maxHeartbeats 0 in
theorem PySem.Challenge.cw_signsalone_k89_texts_of_rows_holds : PySem.Challenge.rw_signsalone_k89_texts_of_rows.Holds := by
  w_on; o_law; k_head; (case hw => w_witness2)
  k_fill
  refine Ev.walk_G (l := PySem.Challenge.rw_signsalone_k89_texts_of_rows) (n := 63) (k := 10) (x := "script") rfl (by decide) rfl ⟨rfl, by decide, by decide⟩ (fun w h Y => by first | exact PySem.W.kIn_of Y | exact PySem.W.km_in_of Y) ?F
  intro w mg fa h Y KX G hmg hT
  have d__law_caught := Ev.d_of (st := K89.s__law_caught) (ps := ["work"]) (n := "_law_caught") KX G (by k_is) (by k_is) (by k_is) (by k_is) (fun _ _ _ _ _ _ us hl => match us, hl with | [_], _ => rfl)
  have d_signs_of_marks := Ev.d_of (st := K89.s_signs_of_marks) (ps := ["word"]) (n := "signs_of_marks") KX G (by k_is) (by k_is) (by k_is) (by k_is) (fun _ _ _ _ _ _ us hl => match us, hl with | [_], _ => rfl)
  have d_row_of_text := Ev.d_of (st := K89.s_row_of_text) (ps := ["text"]) (n := "row_of_text") KX G (by k_is) (by k_is) (by k_is) (by k_is) (fun _ _ _ _ _ _ us hl => match us, hl with | [_], _ => rfl)
  have d__law_blended := Ev.d_of (st := K89.s__law_blended) (ps := ["state"]) (n := "_law_blended") KX G (by k_is) (by k_is) (by k_is) (by k_is) (fun _ _ _ _ _ _ us hl => match us, hl with | [_], _ => rfl)
  have d__law_draw := Ev.d_of (st := K89.s__law_draw) (ps := ["state", "size_here"]) (n := "_law_draw") KX G (by k_is) (by k_is) (by k_is) (by k_is) (fun _ _ _ _ _ _ us hl => match us, hl with | [_, _], _ => rfl)
  have d__law_pick := Ev.d_of (st := K89.s__law_pick) (ps := ["state", "several"]) (n := "_law_pick") KX G (by k_is) (by k_is) (by k_is) (by k_is) (fun _ _ _ _ _ _ us hl => match us, hl with | [_, _], _ => rfl)
  have d_marks_of := Ev.d_of (st := K89.s_marks_of) (ps := ["signs"]) (n := "marks_of") KX G (by k_is) (by k_is) (by k_is) (by k_is) (fun _ _ _ _ _ _ us hl => match us, hl with | [_], _ => rfl)
  have d_is_whole := Ev.d_of (st := K89.s_is_whole) (ps := ["value"]) (n := "is_whole") KX G (by k_is) (by k_is) (by k_is) (by k_is) (fun _ _ _ _ _ _ us hl => match us, hl with | [_], _ => rfl)
  have d_is_number := Ev.d_of (st := K89.s_is_number) (ps := ["value", "least", "most"]) (n := "is_number") KX G (by k_is) (by k_is) (by k_is) (by k_is) (fun _ _ _ _ _ _ us hl => match us, hl with | [_, _, _], _ => rfl)
  have d_are_signs := Ev.d_of (st := K89.s_are_signs) (ps := ["value", "many"]) (n := "are_signs") KX G (by k_is) (by k_is) (by k_is) (by k_is) (fun _ _ _ _ _ _ us hl => match us, hl with | [_, _], _ => rfl)
  have d_is_row := Ev.d_of (st := K89.s_is_row) (ps := ["value"]) (n := "is_row") KX G (by k_is) (by k_is) (by k_is) (by k_is) (fun _ _ _ _ _ _ us hl => match us, hl with | [_], _ => rfl)
  have d_need_row := Ev.d_of (st := K89.s_need_row) (ps := ["row"]) (n := "need_row") KX G (by k_is) (by k_is) (by k_is) (by k_is) (fun _ _ _ _ _ _ us hl => match us, hl with | [_], _ => rfl)
  have d_row_text := Ev.d_of (st := K89.s_row_text) (ps := ["row"]) (n := "row_text") KX G (by k_is) (by k_is) (by k_is) (by k_is) (fun _ _ _ _ _ _ us hl => match us, hl with | [_], _ => rfl)
  have d__law_k89_due := Ev.d_of (st := K89.s__law_k89_due) (ps := ["lines"]) (n := "_law_k89_due") KX G (by k_is) (by k_is) (by k_is) (by k_is) (fun _ _ _ _ _ _ us hl => match us, hl with | [_], _ => rfl)
  have d__law_lv_marks := Ev.d_of (st := K89.s__law_lv_marks) (ps := ["signs"]) (n := "_law_lv_marks") KX G (by k_is) (by k_is) (by k_is) (by k_is) (fun _ _ _ _ _ _ us hl => match us, hl with | [_], _ => rfl)
  have d__law_tg_row := Ev.d_of (st := K89.s__law_tg_row) (ps := ["state", "size"]) (n := "_law_tg_row") KX G (by k_is) (by k_is) (by k_is) (by k_is) (fun _ _ _ _ _ _ us hl => match us, hl with | [_, _], _ => rfl)
  have d__law_begun := Ev.d_of (st := K89.s__law_begun) (ps := ["script"]) (n := "_law_begun") KX G (by k_is) (by k_is) (by k_is) (by k_is) (fun _ _ _ _ _ _ us hl => match us, hl with | [_], _ => rfl)
  have d_law := Ev.dl_of (st := K89.s_law) (ps := ["script"]) (n := "law") KX G (by k_is) (by k_is) (by k_is) (by k_is) (fun _ _ _ _ _ _ us hl => match us, hl with | [_], _ => rfl)
  have m_SignError := Ev.m_of KX G (n := "SignError") (by k_is)
  have m_BadRow := Ev.m_of KX G (n := "BadRow") (by k_is)
  have m_BadText := Ev.m_of KX G (n := "BadText") (by k_is)
  have all_ := (Ev.all_cons m_SignError (Ev.all_cons m_BadRow (Ev.all_cons m_BadText Ev.all_nil)))
  have tb := Ev.tab_mk (st := K89.s_law) (n := "law") (qual := "law") KX (by k_is) (by k_is) (by k_is) rfl
  have hT1 := hT "law" _ _ (by kernel_rfl) tb
  have i1_BadText := Ev.hI_of KX m_BadText (by k_is)
  have i2_BadText := Ev.lC_of KX m_BadText (by k_is)
  have i3_BadText := Ev.lI_of KX i1_BadText (by k_is)
  have i4_BadText := Ev.i4_of KX i3_BadText (by k_is)
  have i5_BadText := Ev.i5_of KX i3_BadText (by k_is)
  have i6_BadText := Ev.i6_of KX i3_BadText (by k_is)
  have T : K89.Tx (Ev.gk KX tb mg PySem.Challenge.rw_signsalone_k89_texts_of_rows.prog) _ := {
    d_signs_of_marks := d_signs_of_marks,
    d_row_of_text := d_row_of_text,
    d__law_blended := d__law_blended,
    d__law_draw := d__law_draw,
    d__law_pick := d__law_pick,
    d_marks_of := d_marks_of,
    d_is_whole := d_is_whole,
    d_is_number := d_is_number,
    d_are_signs := d_are_signs,
    d_is_row := d_is_row,
    d_need_row := d_need_row,
    d_row_text := d_row_text,
    d__law_k89_due := d__law_k89_due,
    d__law_lv_marks := d__law_lv_marks,
    d__law_tg_row := d__law_tg_row,
    d__law_begun := d__law_begun,
    d_law := d_law,
    n_abs := PySem.W.mg_none_of KX G (by k_is),
    n_all := PySem.W.mg_none_of KX G (by k_is),
    n_any := PySem.W.mg_none_of KX G (by k_is),
    n_bool := PySem.W.mg_none_of KX G (by k_is),
    n_int := PySem.W.mg_none_of KX G (by k_is),
    n_isinstance := PySem.W.mg_none_of KX G (by k_is),
    n_len := PySem.W.mg_none_of KX G (by k_is),
    n_min := PySem.W.mg_none_of KX G (by k_is),
    n_range := PySem.W.mg_none_of KX G (by k_is),
    n_repr := PySem.W.mg_none_of KX G (by k_is),
    n_str := PySem.W.mg_none_of KX G (by k_is),
    n_tuple := PySem.W.mg_none_of KX G (by k_is),
    c_MARKS := Ev.cS_of KX G (by k_is),
    c_MOST_ELEMENTS := Ev.cI_of KX G (by k_is),
    k_BadRow := Ev.ex_of m_BadRow,
    k_BadText := Ev.ex_of m_BadText,
    mk_BadRow := Ev.mk_of m_BadRow (by kernel_rfl),
    mk_BadText := Ev.mkOk_sup (Ev.supTxt_of m_BadText i1_BadText (by kernel_rfl) i2_BadText (by rfl) i3_BadText i4_BadText i5_BadText (by rfl) (by kernel_rfl) i6_BadText (by rfl) (by rfl) (by exact fun _ _ _ => .of_eq rfl) (by decide +kernel) (by rfl) (by rfl) (by rfl) (by rfl) (by exact ⟨rfl, rfl, rfl, rfl, rfl⟩) (by exact fun _ => rfl)),
    co := Ev.clsOk_of _ all_ (by kernel_rfl),
    caught := Ev.caught_of d__law_caught m_SignError (Ev.catch_of _ all_ (by kernel_rfl)) }
  refine Ev.lawG_of (gd := true) (st := K89.s_law) (fx := K89.F_law K89.fe) hmg (Ev.noC d_law) hT1 (by kernel_rfl) (Ev.bt_of (st := K89.s_law) (n := "law") (x := "script") fun _ _ _ _ _ _ _ _ => .of_eq rfl) KX ?_ K89.law_true
  intro base k1 k2 LT
  have o_signs_of_marks := K89.ok_signs_of_marks (w := w) (base := base) T  
  have o_row_of_text := K89.ok_row_of_text (w := w) (base := base) T  o_signs_of_marks
  have o__law_blended := K89.ok__law_blended (w := w) (base := base) T  
  have o__law_draw := K89.ok__law_draw (w := w) (base := base) T  o__law_blended
  have o__law_pick := K89.ok__law_pick (w := w) (base := base) T  o__law_draw
  have o_marks_of := K89.ok_marks_of (w := w) (base := base) T  
  have o_is_whole := K89.ok_is_whole (w := w) (base := base) T  
  have o_is_number := K89.ok_is_number (w := w) (base := base) T  o_is_whole
  have o_are_signs := K89.ok_are_signs (w := w) (base := base) T  o_is_number
  have o_is_row := K89.ok_is_row (w := w) (base := base) T  o_are_signs
  have o_need_row := K89.ok_need_row (w := w) (base := base) T  o_is_row
  have o_row_text := K89.ok_row_text (w := w) (base := base) T  o_marks_of o_need_row
  have o__law_k89_due := K89.ok__law_k89_due (w := w) (base := base) T  
  have o__law_lv_marks := K89.ok__law_lv_marks (w := w) (base := base) T  
  have o__law_tg_row := K89.ok__law_tg_row (w := w) (base := base) T  o__law_draw
  have o__law_begun := K89.ok__law_begun (w := w) (base := base) T  
  exact K89.ok_law T LT o_row_of_text o__law_pick o_row_text o__law_k89_due o__law_draw o__law_lv_marks o__law_tg_row o__law_begun
