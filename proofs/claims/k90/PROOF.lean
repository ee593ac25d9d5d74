import PyProof.Rows.All
import Wide.All
import OpenK.AllK
import Wide.FinOn
import HandS.ForMost
import HandS.ForExc
import HandS.Style
import HandS.IsInst
import HandS.Deep
import HandS.Walk
import HandS.TupAny
import HandS.Defaults
import HandS.MakeKw
import HandS.MakeKwOnly
import HandS.Zip
import HandS.New0
import HandS.Head0
import HandS.Head1
import HandS.Head2
import HandS.HeadEnd
import HandS.HeadHook1
import HandS.HeadHook2
import HandS.HeadWalk
import HandS.Lambda
import HandS.EndBits
import PySem.Challenge.RW_evenrings_k90_classes_made_by_hand
set_option Elab.async false
set_option linter.all false
set_option maxRecDepth 100000
/-! Values without a heap, and an evaluator over them. -/
namespace Ev
open PySem

/-- a value: data by what it is, a mutable object by its number -/
inductive D where
  | non | bl (b : Bool) | int (i : Int) | str (x : Str)
  | tup (xs : List D) | lst (xs : List D) | dct (ks vs : List D) | rng (lo hi : Int)
  | obj (c : Nat) (ns : List Str) (vs : List D)
  | ref (n : Nat) | glo (g : Nat) | any
  deriving Inhabited

/-- what a slot holds: a value, a list or a dict of the slot's own, an object that is being made -/
inductive SV where
  | v (d : D) | ol (xs : List D) | od (ks vs : List D) | oo (c : Nat) (ns : List Str) (vs : List D)
  deriving Inhabited
/-- a mutable object -/
inductive Cell where
  | lst (xs : List D) | dct (ks vs : List D) | ins (c : Nat) (ns : List Str) (vs : List D)
  deriving Inhabited
structure Exc where
  c : Nat
  ns : List Str
  vs : List D
abbrev Store := List Cell
structure Env where
  r : List (Option SV)
  s : Store
inductive Res (σ α : Type) where
  | ok (a : α) (e : σ) | err (x : Exc) (s : Store) | bad
namespace Res
variable {σ τ α β : Type}
def bind (r : Res σ α) (f : α → σ → Res τ β) : Res τ β := match r with
  | .ok a e => f a e
  | .err x s => .err x s
  | .bad => .bad
@[simp] theorem bind_ok (a : α) (e : σ) (f : α → σ → Res τ β) : (Res.ok a e).bind f = f a e := rfl
@[simp] theorem bind_err (x : Exc) (s : Store) (f : α → σ → Res τ β) : (Res.err x s).bind f = .err x s := rfl
@[simp] theorem bind_bad (f : α → σ → Res τ β) : (Res.bad).bind f = .bad := rfl
theorem bind_assoc {υ γ : Type} (r : Res σ α) (f : α → σ → Res τ β) (g : β → τ → Res υ γ) : (r.bind f).bind g = r.bind fun a e => (f a e).bind g := by
  cases r <;> rfl
/-- an answer that may lack -/
def opt (o : Option α) (e : σ) : Res σ α := match o with
  | some a => .ok a e
  | none => .bad
@[simp] theorem opt_some (a : α) (e : σ) : opt (some a) e = .ok a e := rfl
@[simp] theorem opt_none (e : σ) : opt (none : Option α) e = .bad := rfl
end Res
/-- what a def does -/
abbrev Fn := List D → Store → Res Store D

/-- operators, comparisons, builtins -/
inductive Bop where
  | add | sub | mul | fdiv | mod | pow | shl | shr | band | bxor
  deriving DecidableEq
inductive Cop where
  | eq | ne | lt | le | gt | ge | is | isnot | isin | notin
  deriving DecidableEq
inductive Bi where
  | len | int | list | tuple | sum | max | min | all | any | abs | repr
  deriving DecidableEq
/-- types that isinstance asks for -/
inductive Ty where
  | int | bool | str | tuple | list | dict | none | cls (c : Nat)
  deriving DecidableEq

def two64 : Int := 18446744073709551616
def small64 (i : Int) : Bool := decide (-two64 < i) && decide (i < two64)
def lim : Nat := 16777216
def binI (op : Bop) (i j : Int) : Option Int := match op with
  | .add => some (i + j)
  | .sub => some (i - j)
  | .mul => if (small64 i || small64 j) = true then some (i * j) else none
  | .fdiv => if j ≠ 0 ∧ j.natAbs < 1073741824 then some (i.fdiv j) else none
  | .mod => if j ≠ 0 then some (i.fmod j) else none
  | .pow => if 0 ≤ j ∧ j ≤ 1000000 ∧ i.natAbs < 18446744073709551616 then some (i ^ j.toNat) else none
  | .shl => if 0 ≤ j ∧ j ≤ 1000000 ∧ i.natAbs < 18446744073709551616 then some (i * 2 ^ j.toNat) else none
  | .shr => if 0 ≤ j then some (i / 2 ^ j.toNat) else none
  | .band => some (Builtin.bitAnd i j)
  | .bxor => some (Builtin.bitXor i j)
def binD (op : Bop) (x y : D) : Option SV := match x, y with
  | .int i, .int j => (binI op i j).map fun k => .v (.int k)
  | .str a, .str b => if op = .add ∧ a.length + b.length ≤ lim then some (.v (.str (a ++ b))) else none
  | .lst xs, .lst ys => if op = .add ∧ xs.length + ys.length ≤ lim then some (.ol (xs ++ ys)) else none
  | .tup xs, .tup ys => if op = .add ∧ xs.length + ys.length ≤ lim then some (.v (.tup (xs ++ ys))) else none
  | _, _ => none

mutual
/-- plain data -/
def D.toP : D → Option PyData
  | .non => some .none
  | .bl b => some (.bool b)
  | .int i => some (.int i)
  | .str x => some (.str x)
  | .tup xs => (D.toPs xs).map .tuple
  | .lst xs => (D.toPs xs).map .list
  | _ => none
def D.toPs : List D → Option (List PyData)
  | [] => some []
  | x :: xs => (D.toP x).bind fun p => (D.toPs xs).map fun ps => p :: ps
end
mutual
/-- .. dicts among it -/
def D.toQ : D → Option PyData
  | .non => some .none
  | .bl b => some (.bool b)
  | .int i => some (.int i)
  | .str x => some (.str x)
  | .tup xs => (D.toQs xs).map .tuple
  | .lst xs => (D.toQs xs).map .list
  | .dct ks vs => (D.toQk ks vs).map .dict
  | _ => none
def D.toQs : List D → Option (List PyData)
  | [] => some []
  | x :: xs => (D.toQ x).bind fun p => (D.toQs xs).map fun ps => p :: ps
def D.toQk : List D → List D → Option (List (PyData × PyData))
  | [], [] => some []
  | .str k :: ks, v :: vs => (D.toQ v).bind fun p => (D.toQk ks vs).map fun ps => (.str k, p) :: ps
  | _, _ => none
end
/-- == -/
def eqD (x y : D) : Option Bool := x.toP.bind fun p => y.toP.bind fun q => if SeqAt.shaped p = true ∧ SeqAt.shaped q = true then some (PyData.eqv p q) else none
/-- x in y -/
def inD (x y : D) (s : Store) : Option Bool := match y with
  | .lst ys => x.toP.bind fun d => (D.toPs ys).bind fun ds => if SeqAt.shaped d = true ∧ SeqAt.shaped (.list ds) = true then some (ds.any fun z => PyData.eqv z d) else none
  | .tup ys => x.toP.bind fun d => (D.toPs ys).bind fun ds => if SeqAt.shaped d = true ∧ SeqAt.shaped (.tuple ds) = true then some (ds.any fun z => PyData.eqv z d) else none
  | .str z => (match x with | .str k => some (!(Builtin.Str.occurrences z k 0 z.length 1).isEmpty) | _ => none)
  | .ref n => (match x, s[n]? with
    | .str k, some (.dct ks _) => some (ks.any fun d => match d with | .str x => decide (x = k) | _ => false)
    | _, _ => none)
  | _ => none
/-- the same object: instances of the classes cs -/
def sameD (x y : D) (cs : List Nat) (s : Store) : Option Bool := match x, y with
  | .ref n, .ref m => (match s[n]?, s[m]? with
    | some (.ins c _ _), some (.ins d _ _) => if c ∈ cs ∧ d ∈ cs then some (decide (n = m)) else none
    | _, _ => none)
  | _, _ => none
def cmpD (op : Cop) (x y : D) : Option Bool := match op with
  | .eq => eqD x y
  | .ne => (eqD x y).map fun b => !b
  | .lt => match x, y with | .int i, .int j => some (decide (i < j)) | _, _ => none
  | .le => match x, y with | .int i, .int j => some (decide (i ≤ j)) | _, _ => none
  | .gt => match x, y with | .int i, .int j => some (decide (j < i)) | _, _ => none
  | .ge => match x, y with | .int i, .int j => some (decide (j ≤ i)) | _, _ => none
  | .is => match y with
    | .non => (match x with | .non => some true | .any => none | _ => some false)
    | .bl b => (match x with | .bl a => some (decide (a = b)) | _ => none)
    | _ => none
  | .isnot => match y with
    | .non => (match x with | .non => some false | .any => none | _ => some true)
    | .bl b => (match x with | .bl a => some (!decide (a = b)) | _ => none)
    | _ => none
  | .isin => none
  | .notin => none
/-- a place in a list -/
def atI {α : Type} (xs : List α) (i : Int) : Option α := L2.atI xs i
def lookK (k : Str) : List D → List D → Option D
  | .str x :: ks, v :: vs => if x = k then some v else lookK k ks vs
  | _ :: ks, _ :: vs => lookK k ks vs
  | _, _ => none
def putK (k : Str) (d : D) : List D → List D → List D
  | .str x :: ks, v :: vs => (if x = k then d else v) :: putK k d ks vs
  | _ :: ks, v :: vs => v :: putK k d ks vs
  | _, _ => []
def lookF (f : Str) : List Str → List D → Option D
  | x :: ns, v :: vs => if x = f then some v else lookF f ns vs
  | _, _ => none
/-- x[i] -/
def idxD (x i : D) (s : Store) : Option D := match x, i with
  | .tup xs, .int k => atI xs k
  | .lst xs, .int k => atI xs k
  | .str z, .int k => if z.length ≤ lim then (atI z.cps.toList k).map fun c => .str ⟨#[c]⟩ else none
  | .ref n, .str k => (match s[n]? with
    | some (.dct ks vs) => lookK k ks vs
    | _ => none)
  | _, _ => none
/-- x.f, x of one of the classes cs -/
def attrD (x : D) (f : Str) (cs : List Nat) (s : Store) : Option D := match x with
  | .obj c ns vs => if c ∈ cs then lookF f ns vs else none
  | .ref n => (match s[n]? with
    | some (.ins c ns vs) => if c ∈ cs then lookF f ns vs else none
    | _ => none)
  | _ => none
def intsOf : List D → Option (List Int)
  | [] => some []
  | .int i :: r => (intsOf r).map fun is => i :: is
  | _ => none
def blsOf : List D → Option (List Bool)
  | [] => some []
  | .bl b :: r => (blsOf r).map fun bs => b :: bs
  | _ => none
def maxOf : List Int → Option Int
  | [] => none
  | i :: r => some (r.foldl (fun a b => if a < b then b else a) i)
def minOf : List Int → Option Int
  | [] => none
  | i :: r => some (r.foldl (fun a b => if b < a then b else a) i)
/-- a call of a builtin -/
def biLen (xs : List D) (s : Store) : Option SV := match xs with
  | [.lst xs] => some (.v (.int xs.length))
  | [.tup xs] => some (.v (.int xs.length))
  | [.str z] => if z.length ≤ lim then some (.v (.int z.length)) else none
  | [.ref n] => (match s[n]? with
    | some (.lst xs) => some (.v (.int xs.length))
    | _ => none)
  | _ => none
def biInt : List D → Option SV
  | [.int i] => some (.v (.int i))
  | [.bl b] => some (.v (.int (if b then 1 else 0)))
  | _ => none
/-- a list that is a cell -/
def cellL (o : D) (s : Store) : Option (List D) := match o with
  | .ref n => (match s[n]? with
    | some (.lst xs) => some xs
    | _ => none)
  | _ => none
def biList (xs : List D) (s : Store) : Option SV := match xs with
  | [.lst xs] => some (.ol xs)
  | [.tup xs] => some (.ol xs)
  | [.ref n] => (cellL (.ref n) s).map .ol
  | _ => none
def biTuple (xs : List D) (s : Store) : Option SV := match xs with
  | [.lst xs] => some (.v (.tup xs))
  | [.tup xs] => some (.v (.tup xs))
  | [.ref n] => (cellL (.ref n) s).map fun xs => .v (.tup xs)
  | _ => none
def biSum : List D → Option SV
  | [.lst xs] => (intsOf xs).map fun is => .v (.int is.sum)
  | _ => none
def biMax : List D → Option SV
  | [.lst xs] => ((intsOf xs).bind maxOf).map fun i => .v (.int i)
  | [.int i, .int j] => some (.v (.int (if j > i then j else i)))
  | _ => none
def biMin : List D → Option SV
  | [.lst xs] => ((intsOf xs).bind minOf).map fun i => .v (.int i)
  | [.int i, .int j] => some (.v (.int (if j < i then j else i)))
  | _ => none
def biAll : List D → Option SV
  | [.lst xs] => (blsOf xs).map fun bs => .v (.bl (bs.all id))
  | _ => none
def biAny : List D → Option SV
  | [.lst xs] => (blsOf xs).map fun bs => .v (.bl (bs.any id))
  | _ => none
def biAbs : List D → Option SV
  | [.int i] => some (.v (.int (if i < 0 then -i else i)))
  | _ => none
def reprP (p : PyData) : Option SV := if p.showable = true ∧ p.shown.length ≤ lim ∧ p.depth ≤ 50 then some (.v (.str p.shown)) else none
def biRepr : List D → Option SV
  | [x] => x.toQ.bind reprP
  | _ => none
def biD (b : Bi) (xs : List D) (s : Store) : Option SV := match b with
  | .len => biLen xs s
  | .int => biInt xs
  | .list => biList xs s
  | .tuple => biTuple xs s
  | .sum => biSum xs
  | .max => biMax xs
  | .min => biMin xs
  | .all => biAll xs
  | .any => biAny xs
  | .abs => biAbs xs
  | .repr => biRepr xs
/-- a value's type -/
def tyOf (x : D) (s : Store) : Option Ty := match x with
  | .non => some .none
  | .bl _ => some .bool
  | .int _ => some .int
  | .str _ => some .str
  | .tup _ => some .tuple
  | .lst _ => some .list
  | .dct _ _ => some .dict
  | .obj c _ _ => some (.cls c)
  | .ref n => (match s[n]? with
    | some (.ins c _ _) => some (.cls c)
    | some (.lst _) => some .list
    | some (.dct _ _) => some .dict
    | none => none)
  | _ => none
def subTy (a t : Ty) : Bool := decide (a = t) || (decide (a = .bool) && decide (t = .int))
def okTy (cs : List Nat) : Ty → Bool
  | .cls c => decide (c ∈ cs)
  | _ => true
/-- isinstance(x, ts); x of a built-in type or of a class of cs -/
def isinD (x : D) (s : Store) (ts : List Ty) (cs : List Nat) : Option Bool := (tyOf x s).bind fun a => if okTy cs a = true then some (ts.any (subTy a)) else none

/-- targets -/
inductive Tg where
  | v (i : Nat) | nil | cons (t ts : Tg) | tup (ts : Tg) | lst (ts : Tg)
/-- expressions; lists of them are expressions too -/
inductive Ex where
  | var (i : Nat) | int (i : Int) | bl (b : Bool) | non | str (x : Str)
  | nil | cons (e es : Ex)
  | tup (es : Ex) | disp (es : Ex)
  | ddisp (ks : List Str) (es : Ex)
  | bin (op : Bop) (a b : Ex) | neg (a : Ex) | not (a : Ex)
  | cmp (op : Cop) (a b : Ex) | chain (o1 o2 : Cop) (a b c : Ex)
  | and (a b : Ex) | or (a b : Ex) | ite (c a b : Ex)
  | idx (a i : Ex) | attr (a : Ex) (f : Str) (cs : List Nat)
  | len (i : Nat)
  | call (g : Nat) (es : Ex)
  | newx (c : Nat) (g : Option Nat) (pm : List Nat) (es : Ex)
  | toc (e : Ex)
  | same (neg : Bool) (a b : Ex) (cs : List Nat) | inx (neg : Bool) (a b : Ex)
  | bi (b : Bi) (es : Ex) | isi (a : Ex) (ts : List Ty) (cs : List Nat)
  | comp (own : List Nat) (t : Tg) (it : Ex) (c e : Ex) | yes
  | rng (lo hi : Ex) | enu (e : Ex) | zip (a b : Ex)
/-- statements; a block is a statement -/
inductive Sm where
  | skip | seq (a b : Sm)
  | asg (t : Tg) (e : Ex) | own (i : Nat) (e : Ex) | par (i j : Nat) (a b : Ex)
  | setk (o : Ex) (k : Str) (e : Ex) | seti (i : Nat) (ix e : Ex) | setf (i c : Nat) (f : Str) (e : Ex)
  | aug (i : Nat) (op : Bop) (e : Ex)
  | app (i : Nat) (e : Ex)
  | appc (o e : Ex)
  | ex (e : Ex) | ret (e : Ex) | retn
  | ite (c : Ex) (a b : Sm)
  | for_ (t : Tg) (it : Ex) (b : Sm) | whl (n : Nat) (c : Ex) (b : Sm)
  | brk | cont
inductive Fl where
  | nx | rt (d : D) | bk | ct

def SV.d : SV → Option D
  | .v d => some d
  | .ol xs => some (.lst xs)
  | .od ks vs => some (.dct ks vs)
  | .oo c ns vs => some (.obj c ns vs)
/-- as a value -/
def toD (r : Res Env SV) : Res Env D := r.bind fun sv e => .opt sv.d e
def toA (r : Res Env SV) : Res Env (List D) := r.bind fun sv e => match sv with
  | .v (.tup ds) => .ok ds e
  | _ => .bad
def Env.get (e : Env) (i : Nat) : Option SV := (e.r[i]?).join
def Env.set (e : Env) (i : Nat) (x : Option SV) : Env := ⟨e.r.set i x, e.s⟩
mutual
def asgT : Tg → D → Env → Option Env
  | .v i, d, e => if i < e.r.length then some (e.set i (some (.v d))) else none
  | .tup ts, .tup ds, e => asgTs ts ds e
  | .lst ts, .lst ds, e => asgTs ts ds e
  | _, _, _ => none
def asgTs : Tg → List D → Env → Option Env
  | .nil, [], e => some e
  | .cons t ts, d :: ds, e => (asgT t d e).bind fun e' => asgTs ts ds e'
  | _, _, _ => none
end
def wipeE (e : Env) : List Nat → Env
  | [] => e
  | v :: vs => (wipeE e vs).set v none
/-- the slots vs as they stood in e0 -/
def backE (e0 e : Env) : List Nat → Env
  | [] => e
  | v :: vs => (backE e0 e vs).set v (match e0.get v with
    | some (.v d) => some (.v d)
    | _ => none)
/-- a comprehension's turns -/
def compLoop (f : D → Env → Res Env (Option D)) : List D → Env → List D → Res Env (List D)
  | [], e, acc => .ok acc e
  | x :: xs, e, acc => (f x e).bind fun o e' => compLoop f xs e' (match o with | some d => acc ++ [d] | none => acc)
/-- a turn: the target, the test, the element -/
def compF (own : List Nat) (t : Tg) (c el : Env → Res Env D) (x : D) (e2 : Env) : Res Env (Option D) := (Res.opt (asgT t x (wipeE e2 own)) e2).bind fun e3 _ => (c e3).bind fun b e4 => match b with
  | .bl true => (el e4).bind fun d e5 => .ok (some d) (wipeE e5 own)
  | .bl false => .ok none (wipeE e4 own)
  | _ => .bad
def noErr {σ α : Type} (r : Res σ α) : Res σ α := match r with
  | .err _ _ => .bad
  | r => r
/-- a for's turns -/
def forLoop (f : D → Env → Res Env Fl) : List D → Env → Res Env Fl
  | [], e => .ok .nx e
  | x :: xs, e => (f x e).bind fun fl e' => match fl with
    | .nx => forLoop f xs e'
    | .ct => forLoop f xs e'
    | .bk => .ok .nx e'
    | .rt d => .ok (.rt d) e'
def rangeD (lo hi : Int) : List D := (List.range (hi - lo).toNat).map fun k => .int (lo + (k : Nat))
def newCell (c : Cell) (e : Env) : Res Env SV := .ok (.v (.ref e.s.length)) ⟨e.r, e.s ++ [c]⟩
def toCell (r : Res Env SV) : Res Env SV := r.bind fun sv e => match sv with
  | .ol xs => newCell (.lst xs) e
  | .od ks vs => newCell (.dct ks vs) e
  | .oo c ns vs => newCell (.ins c ns vs) e
  | .v _ => .bad
def pick (pm : List Nat) (ds : List D) : Option (List D) := match pm with
  | [] => some ds
  | pm => pm.mapM fun i => ds[i]?
def enumD (xs : List D) : List D := xs.mapIdx fun i x => .tup [.int i, x]
def zipD : List D → List D → List D
  | x :: xs, y :: ys => .tup [x, y] :: zipD xs ys
  | _, _ => []
/-- what is walked -/
def itemsOf (r : Res Env SV) : Res Env (List D) := r.bind fun sv e => match sv with
  | .v (.lst xs) => .ok xs e
  | .v (.tup xs) => .ok xs e
  | .ol xs => .ok xs e
  | _ => .bad

/-- a name is read: what it holds is a value from now on -/
def rdV (e : Env) (i : Nat) : Res Env SV := match e.get i with
  | some (.v d) => .ok (.v d) e
  | some (.ol xs) => .ok (.v (.lst xs)) (e.set i (some (.v (.lst xs))))
  | some (.od ks vs) => .ok (.v (.dct ks vs)) (e.set i (some (.v (.dct ks vs))))
  | _ => .bad

def ev (G : List Fn) : Ex → Env → Res Env SV
  | .var i, e => rdV e i
  | .int i, e => .ok (.v (.int i)) e
  | .bl b, e => .ok (.v (.bl b)) e
  | .non, e => .ok (.v .non) e
  | .str x, e => .ok (.v (.str x)) e
  | .nil, e => .ok (.v (.tup [])) e
  | .cons a es, e => (toD (ev G a e)).bind fun d e1 => (toA (ev G es e1)).bind fun ds e2 => .ok (.v (.tup (d :: ds))) e2
  | .tup es, e => (toA (ev G es e)).bind fun ds e1 => if ds.length ≤ lim then .ok (.v (.tup ds)) e1 else .bad
  | .disp es, e => (toA (ev G es e)).bind fun ds e1 => if ds.length ≤ lim then .ok (.ol ds) e1 else .bad
  | .ddisp ks es, e => (toA (ev G es e)).bind fun ds e1 => if ds.length = ks.length then .ok (.od (ks.map .str) ds) e1 else .bad
  | .bin op a b, e => (toD (ev G a e)).bind fun x e1 => (toD (ev G b e1)).bind fun y e2 => .opt (binD op x y) e2
  | .neg a, e => (toD (ev G a e)).bind fun x e1 => match x with
    | .int i => .ok (.v (.int (-i))) e1
    | _ => .bad
  | .not a, e => (toD (ev G a e)).bind fun x e1 => match x with
    | .bl b => .ok (.v (.bl (!b))) e1
    | _ => .bad
  | .cmp op a b, e => (toD (ev G a e)).bind fun x e1 => (toD (ev G b e1)).bind fun y e2 => .opt ((cmpD op x y).map fun b => .v (.bl b)) e2
  | .chain o1 o2 a b c, e => (toD (ev G a e)).bind fun x e1 => (toD (ev G b e1)).bind fun y e2 => (Res.opt (cmpD o1 x y) e2).bind fun k e2 =>
    if k = true then (toD (ev G c e2)).bind fun z e3 => .opt ((cmpD o2 y z).map fun b => .v (.bl b)) e3 else .ok (.v (.bl false)) e2
  | .and a b, e => (toD (ev G a e)).bind fun x e1 => match x with
    | .bl true => ev G b e1
    | .bl false => .ok (.v (.bl false)) e1
    | _ => .bad
  | .or a b, e => (toD (ev G a e)).bind fun x e1 => match x with
    | .bl true => .ok (.v (.bl true)) e1
    | .bl false => ev G b e1
    | _ => .bad
  | .ite c a b, e => (toD (ev G c e)).bind fun x e1 => match x with
    | .bl true => ev G a e1
    | .bl false => ev G b e1
    | _ => .bad
  | .idx a i, e => (toD (ev G a e)).bind fun x e1 => (toD (ev G i e1)).bind fun y e2 => .opt ((idxD x y e2.s).map .v) e2
  | .attr a f cs, e => (toD (ev G a e)).bind fun x e1 => .opt ((attrD x f cs e1.s).map .v) e1
  | .len i, e => match e.get i with
    | some (.v (.lst xs)) => .ok (.v (.int xs.length)) e
    | some (.ol xs) => .ok (.v (.int xs.length)) e
    | _ => .bad
  | .call g es, e => (toA (ev G es e)).bind fun ds e1 => match G[g]? with
    | some f => (f ds e1.s).bind fun d s => .ok (.v d) ⟨e1.r, s⟩
    | none => .bad
  | .newx c g pm es, e => (toA (ev G es e)).bind fun ds e1 => (Res.opt (pick pm ds) e1).bind fun us e1 => match g with
    | none => (match us with
      | [] => .ok (.oo c [] []) e1
      | _ => .bad)
    | some g => match G[g]? with
      | some f => (f us e1.s).bind fun d s => (match d with
        | .obj c' ns vs => if c' = c then .ok (.oo c ns vs) ⟨e1.r, s⟩ else .bad
        | _ => .bad)
      | none => .bad
  | .toc a, e => toCell (ev G a e)
  | .same neg a b cs, e => (toD (ev G a e)).bind fun x e1 => (toD (ev G b e1)).bind fun y e2 => .opt ((sameD x y cs e2.s).map fun k => .v (.bl (if neg then !k else k))) e2
  | .inx neg a b, e => (toD (ev G a e)).bind fun x e1 => (toD (ev G b e1)).bind fun y e2 => .opt ((inD x y e2.s).map fun k => .v (.bl (if neg then !k else k))) e2
  | .bi b es, e => (toA (ev G es e)).bind fun ds e1 => .opt (biD b ds e1.s) e1
  | .isi a ts cs, e => (toD (ev G a e)).bind fun x e1 => .opt ((isinD x e1.s ts cs).map fun b => .v (.bl b)) e1
  | .comp own t it c el, e => (itemsOf (ev G it e)).bind fun xs e1 =>
    if xs.length ≤ lim then (noErr (compLoop (compF own t (fun e3 => toD (ev G c e3)) (fun e4 => toD (ev G el e4))) xs (wipeE e1 own) [])).bind fun ys e6 => .ok (.ol ys) (backE e1 e6 own) else .bad
  | .yes, e => .ok (.v (.bl true)) e
  | .enu a, e => (itemsOf (ev G a e)).bind fun xs e1 => .ok (.v (.lst (enumD xs))) e1
  | .zip a b, e => (toD (ev G a e)).bind fun x e1 => (toD (ev G b e1)).bind fun y e2 => match x, y with
    | .lst xs, .lst ys => .ok (.v (.lst (zipD xs ys))) e2
    | _, _ => .bad
  | .rng a b, e => (toD (ev G a e)).bind fun x e1 => (toD (ev G b e1)).bind fun y e2 => match x, y with
    | .int i, .int j => if -4611686018427387904 ≤ i ∧ i < 4611686018427387904 ∧ -4611686018427387904 ≤ j ∧ j < 4611686018427387904 ∧ (j - i).toNat ≤ lim then .ok (.v (.lst (rangeD i j))) e2 else .bad
    | _, _ => .bad

def whileLoop (c : Env → Res Env D) (f : Env → Res Env Fl) : Nat → Env → Res Env Fl
  | 0, _ => .bad
  | n + 1, e => (c e).bind fun d e1 => match d with
    | .bl true => (f e1).bind fun fl e2 => (match fl with
      | .nx => whileLoop c f n e2
      | .ct => whileLoop c f n e2
      | .bk => .ok .nx e2
      | .rt d => .ok (.rt d) e2)
    | .bl false => .ok .nx e1
    | _ => .bad
/-- a cell's entry -/
def setkD (o : D) (k : Str) (d : D) (s : Store) : Option Store := match o with
  | .ref n => (match s[n]? with
    | some (.dct ks vs) => if ks.length < lim then (lookK k ks vs).map fun _ => s.set n (.dct ks (putK k d ks vs)) else none
    | _ => none)
  | _ => none
/-- a cell's list, one longer -/
def appD (o d : D) (s : Store) : Option Store := match o with
  | .ref n => (cellL (.ref n) s).bind fun xs => if xs.length < lim then some (s.set n (.lst (xs ++ [d]))) else none
  | _ => none
def evS (G : List Fn) : Sm → Env → Res Env Fl
  | .skip, e => .ok .nx e
  | .seq a b, e => (evS G a e).bind fun fl e1 => match fl with
    | .nx => evS G b e1
    | fl => .ok fl e1
  | .asg t x, e => (toD (ev G x e)).bind fun d e1 => (Res.opt (asgT t d e1) e1).bind fun e2 _ => .ok .nx e2
  | .own i x, e => (ev G x e).bind fun sv e1 => if i < e1.r.length then .ok .nx (e1.set i (some sv)) else .bad
  | .par i j a b, e => (toD (ev G a e)).bind fun x e1 => (toD (ev G b e1)).bind fun y e2 => if i < e2.r.length ∧ j < e2.r.length then .ok .nx ((e2.set i (some (.v x))).set j (some (.v y))) else .bad
  | .setk o k x, e => (toD (ev G x e)).bind fun d e1 => (toD (ev G o e1)).bind fun od e2 => (Res.opt (setkD od k d e2.s) e2).bind fun s e2 => .ok .nx ⟨e2.r, s⟩
  | .seti i ix x, e => (toD (ev G x e)).bind fun d e1 => match e1.get i with
    | some (.ol _) => (toD (ev G ix e1)).bind fun k e2 => (match e2.get i, k with
      | some (.ol xs), .int k => (Res.opt (L2.ixN xs.length k) e2).bind fun j e3 => .ok .nx (e3.set i (some (.ol (xs.set j d))))
      | _, _ => .bad)
    | _ => .bad
  | .setf i c f x, e => (toD (ev G x e)).bind fun d e1 => match e1.get i with
    | some (.oo c' ns vs) => if c' = c ∧ f ∉ ns ∧ ns.length < 1000 then .ok .nx (e1.set i (some (.oo c (ns ++ [f]) (vs ++ [d])))) else .bad
    | _ => .bad
  | .aug i op x, e => match e.get i with
    | some (.v (.int a)) => (toD (ev G x e)).bind fun b e2 => (match b with
      | .int b => (Res.opt (binI op a b) e2).bind fun k e3 => if i < e3.r.length then .ok .nx (e3.set i (some (.v (.int k)))) else .bad
      | _ => .bad)
    | _ => .bad
  | .app i x, e => match e.get i with
    | some (.ol _) => (toD (ev G x e)).bind fun d e1 => (match e1.get i with
      | some (.ol xs) => if xs.length < lim then .ok .nx (e1.set i (some (.ol (xs ++ [d])))) else .bad
      | _ => .bad)
    | _ => .bad
  | .appc o x, e => (toD (ev G o e)).bind fun od e1 => (Res.opt (cellL od e1.s) e1).bind fun _ e1 => (toD (ev G x e1)).bind fun d e2 => (Res.opt (appD od d e2.s) e2).bind fun s e2 => .ok .nx ⟨e2.r, s⟩
  | .ex x, e => (ev G x e).bind fun _ e1 => .ok .nx e1
  | .ret x, e => (toD (ev G x e)).bind fun d e1 => .ok (.rt d) e1
  | .retn, e => .ok (.rt .non) e
  | .ite c a b, e => (toD (ev G c e)).bind fun d e1 => match d with
    | .bl true => evS G a e1
    | .bl false => evS G b e1
    | _ => .bad
  | .for_ t it b, e => (itemsOf (ev G it e)).bind fun xs e1 => forLoop (fun x e2 => (Res.opt (asgT t x e2) e2).bind fun e3 _ => evS G b e3) xs e1
  | .whl n c b, e => whileLoop (fun e => toD (ev G c e)) (fun e => evS G b e) n e
  | .brk, e => .ok .bk e
  | .cont, e => .ok .ct e
/-- how a def ends -/
def finS : Res Env Fl → Res Store D
  | .ok (.rt d) e => .ok d e.s
  | .ok .nx e => .ok .non e.s
  | .ok _ _ => .bad
  | .err x s => .err x s
  | .bad => .bad
/-- a def: np parameters, n slots -/
def fnS (G : List Fn) (np n : Nat) (b : Sm) : Fn := fun ds S => if ds.length = np then finS (evS G b ⟨ds.map (fun d => some (.v d)) ++ List.replicate (n - np) none, S⟩) else .bad
/-- the stores of an __init__ -/
def evI (G : List Fn) (cl : Nat) : List (Str × Ex) → Env → Res Env Unit
  | [], e => .ok () e
  | (f, x) :: r, e => (toD (ev G x e)).bind fun d e1 => match e1.get 0 with
    | some (.oo c ns vs) => if c = cl ∧ f ∉ ns ∧ ns.length < 1000 then evI G cl r (e1.set 0 (some (.oo cl (ns ++ [f]) (vs ++ [d])))) else .bad
    | _ => .bad
def finO (cl : Nat) (s : Store) : Option SV → Res Store D
  | some (.oo c ns vs) => if c = cl then .ok (.obj cl ns vs) s else .bad
  | _ => .bad
def finI (cl : Nat) : Res Env Unit → Res Store D
  | .ok _ e => finO cl e.s (e.get 0)
  | .err x s => .err x s
  | .bad => .bad
/-- an __init__ of the class cl: np parameters behind self -/
def fnI (G : List Fn) (cl np n : Nat) (b : List (Str × Ex)) : Fn := fun ds S => if ds.length = np then
  finI cl (evI G cl b ⟨some (.oo cl [] []) :: (ds.map (fun d => some (.v d)) ++ List.replicate (n - (np + 1)) none), S⟩) else .bad
end Ev

set_option Elab.async false
set_option linter.all false
set_option maxRecDepth 100000
set_option maxHeartbeats 4000000
namespace Ev
open PySem PySem.Spec PyProof.Rows L2
/-- what is known of the text's classes: their names; attributes that no class has; which isinstance is asked; which have no __eq__; __init__s -/
structure ClsT where
  cn : List Str
  na : List (Nat × Str)
  iss : List (Nat × Nat)
  idq : List Nat
  mk0 : List Nat
  mkf : List (Nat × Nat)
  kws : List (Nat × List Str × List Nat)
def Ty.tn : Ty → String
  | .int => "int" | .bool => "bool" | .str => "str" | .tuple => "tuple" | .list => "list" | .dict => "dict" | .none => "NoneType" | .cls _ => "object"

/-! ### the classes, checked in the written part -/
def okId (K : PySem.W.Frag) (C : Addr) : Bool := match K.lookup C with
  | some ⟨.type c, _, .cls cd, sl⟩ => decide (c = "type") && decide (cd.mro = [.ref C, .type "object"]) && !cd.hasDel && (match sl.toList with
    | [_, _, _, _, some (.builtin _), _] => true
    | _ => false) && PySem.W.nsOkIn K cd.ns && He.eqO (PySem.W.nsIn K cd.ns "__eq__") (some none) && He.eqO (PySem.W.nsIn K cd.ns "__ne__") (some none)
  | _ => false
def tyAll : List Ty := [.int, .bool, .str, .tuple, .list, .dict]
def okClsX (K : PySem.W.Frag) (x : Str) : Bool := (He.Fa.cls x).ok K && He.eqO (PySem.W.findIn K (.ref (He.ga K x)) "__class__") (some (some (.builtin "object.__class__"))) && decide (PySem.W.mroIn K (He.ga K x) (.type "object") = some true) &&
  ((PySem.W.clsIn K (He.ga K x)).isSome && PySem.W.typeIn K (.ref (He.ga K x)) == some (.type "type")) && (tyAll.all fun t => decide (PySem.W.kitOne K (.ref (He.ga K x)) (.type t.tn) = some false)) && (He.Fa.glo x).ok K
def okDesc (K : PySem.W.Frag) : Bool := He.eqO (PySem.W.specialIn K (.builtin "object.__class__") "__get__") (some (some (.builtin "getset_descriptor.__get__"))) && decide (PySem.W.takesIn K (.builtin "object.__class__") = some true) &&
  (match K.lookup sysModules with
    | some ⟨.type c, _, _, _⟩ => decide (c = "dict")
    | _ => false)
def okMk0 (K : PySem.W.Frag) (C : Addr) : Bool := PySem.W.makesIn K C && He.eqO (PySem.W.findIn K (.ref C) "__init__") (some (some (.builtin "object.__init__"))) && PySem.W.keepIn K (.ref C)
def caOf (cn : List Str) (K : PySem.W.Frag) (c : Nat) : Addr := He.ga K (cn.getD c "")
def exC (T : ClsT) (K : PySem.W.Frag) : Bool := okDesc K && (T.cn.all fun x => okClsX K x) && (T.na.all fun p => He.eqO (PySem.W.findIn K (.ref (caOf T.cn K p.1)) p.2) (some none)) &&
  (T.iss.all fun p => decide (PySem.W.kitOne K (.ref (caOf T.cn K p.1)) (.ref (caOf T.cn K p.2)) = some (decide (p.1 = p.2)))) && (T.idq.all fun c => okId K (caOf T.cn K c)) && (T.mk0.all fun c => okMk0 K (caOf T.cn K c)) &&
  (T.mkf.all fun p => (He.Fa.mkr (T.cn.getD p.1 "")).ok K)

/-! ### the head's facts: those of hookD, a part with sys.modules, a check of one's own -/
def obsM (fa : List He.Fa) (fn : List He.DefD) (ex : PySem.W.Frag → Bool) (K : PySem.W.Frag) : He.AlD := ((He.obsD fa fn K).1 && ex K, (He.obsD fa fn K).2)
/-- those not met yet -/
def addA {α : Type} (k : Nat → List Addr → α) : Nat → List Addr → List Addr → α
  | vis, [], out => k vis out
  | vis, a :: r, out => HandSHeadRun.frNat a fun a => match Nat.beq (Nat.mod (Nat.shiftRight vis a) 2) 1 with
    | true => addA k vis r out
    | false => HandSHeadRun.frNat (Nat.add vis (Nat.shiftLeft 1 a)) fun vis => addA k vis r (a :: out)
/-- what is reached from fr in n steps, each once -/
def bfs (g : Addr → Option Obj) : Nat → Nat → List Addr → List Addr → List Addr
  | 0, _, _, acc => acc
  | n + 1, vis, fr, acc => addA (fun vis nx => bfs g n vis nx (acc ++ nx)) vis (fr.flatMap fun a => match g a with
    | some o => He.refsD o
    | none => []) []
def asM (g : Addr → Option Obj) (n : Nat) : List Addr := bfs g n (Nat.shiftLeft 1 mainGlobals) [mainGlobals] [mainGlobals]
def partM (n : Nat) (g : Addr → Option Obj) : PySem.W.Frag := He.frG g (asM g n ++ [sysModules])
def hookM (n : Nat) (fa : List He.Fa) (fn : List He.DefD) (ex : PySem.W.Frag → Bool) : PySem.W.Hook where
  α := He.AlD
  obs := fun s => obsM fa fn ex (partM n s.heap.get?)
  val := fun _ => He.valD fn
  says := fun _ h => ∃ K : PySem.W.Frag, K.In h ∧ He.SaysD fa fn K ∧ ex K = true
  of := fun _ s e => by
    have e : obsM fa fn ex (partM n s.heap.get?) = He.valD fn := e
    have e1 : ((He.obsD fa fn (partM n s.heap.get?)).1 && ex (partM n s.heap.get?)) = true := congrArg Prod.fst e
    have e2 : (He.obsD fa fn (partM n s.heap.get?)).2 = fn.map He.DefD.val := congrArg Prod.snd e
    rw [Bool.and_eq_true] at e1
    exact ⟨_, He.frG_in, Prod.ext e1.1 e2, e1.2⟩
  keeps := fun _ _ _ ⟨K, hK, c⟩ k => ⟨K, PySem.W.Frag.In.keeps hK k, c⟩
def obMG (n : Nat) (fa : List He.Fa) (fn : List He.DefD) (ex : PySem.W.Frag → Bool) (g : Addr → Option Obj) : He.AlD := obsM fa fn ex (partM n g)
theorem obMG_eq {n : Nat} {fa : List He.Fa} {fn : List He.DefD} {ex : PySem.W.Frag → Bool} {g : Addr → Option Obj} {s : Shared} (h : ∀ a, g a = s.heap.get? a) : obMG n fa fn ex g = (hookM n fa fn ex).obs s := by
  have e : g = s.heap.get? := funext h
  rw [e] <;> rfl

end Ev

set_option Elab.async false
set_option linter.all false
set_option maxRecDepth 100000
set_option maxHeartbeats 0
namespace Lw
open PySem PySem.Spec PyProof.Rows L2 Ev
def allc : List Nat := List.range 41
def topS (i : Nat) : Stmt := PySem.Challenge.pw_evenrings_k90_classes_made_by_hand.main.body.getD i (.Pass ⟨0, 0, 0, 0⟩)
def d0 : He.DefD := ⟨("copied", none), "copied", "copied", defArgs (topS 1), defBody (topS 1), defScope (topS 1), [], []⟩
def d1 : He.DefD := ⟨("Four", some "__init__"), "__init__", "Four.__init__", defArgs (inClass (topS 4) 0), defBody (inClass (topS 4) 0), defScope (inClass (topS 4) 0), [], []⟩
def d2 : He.DefD := ⟨("MeetBreak", some "__init__"), "__init__", "MeetBreak.__init__", defArgs (inClass (topS 5) 0), defBody (inClass (topS 5) 0), defScope (inClass (topS 5) 0), [], []⟩
def d3 : He.DefD := ⟨("SumBreak", some "__init__"), "__init__", "SumBreak.__init__", defArgs (inClass (topS 6) 0), defBody (inClass (topS 6) 0), defScope (inClass (topS 6) 0), [], []⟩
def d4 : He.DefD := ⟨("BaseBreak", some "__init__"), "__init__", "BaseBreak.__init__", defArgs (inClass (topS 7) 0), defBody (inClass (topS 7) 0), defScope (inClass (topS 7) 0), [], []⟩
def d5 : He.DefD := ⟨("FlatBreak", some "__init__"), "__init__", "FlatBreak.__init__", defArgs (inClass (topS 8) 0), defBody (inClass (topS 8) 0), defScope (inClass (topS 8) 0), [], []⟩
def d6 : He.DefD := ⟨("ExchangeBreak", some "__init__"), "__init__", "ExchangeBreak.__init__", defArgs (inClass (topS 9) 0), defBody (inClass (topS 9) 0), defScope (inClass (topS 9) 0), [], []⟩
def d7 : He.DefD := ⟨("InBoth", some "__init__"), "__init__", "InBoth.__init__", defArgs (inClass (topS 11) 0), defBody (inClass (topS 11) 0), defScope (inClass (topS 11) 0), [], []⟩
def d8 : He.DefD := ⟨("RingLess", some "__init__"), "__init__", "RingLess.__init__", defArgs (inClass (topS 12) 0), defBody (inClass (topS 12) 0), defScope (inClass (topS 12) 0), [], []⟩
def d9 : He.DefD := ⟨("CutLess", some "__init__"), "__init__", "CutLess.__init__", defArgs (inClass (topS 13) 0), defBody (inClass (topS 13) 0), defScope (inClass (topS 13) 0), [], []⟩
def d10 : He.DefD := ⟨("EvenTable", some "__init__"), "__init__", "EvenTable.__init__", defArgs (inClass (topS 15) 0), defBody (inClass (topS 15) 0), defScope (inClass (topS 15) 0), [], []⟩
def d11 : He.DefD := ⟨("ThreeTable", some "__init__"), "__init__", "ThreeTable.__init__", defArgs (inClass (topS 17) 0), defBody (inClass (topS 17) 0), defScope (inClass (topS 17) 0), [], []⟩
def d12 : He.DefD := ⟨("Signed", some "__init__"), "__init__", "Signed.__init__", defArgs (inClass (topS 19) 0), defBody (inClass (topS 19) 0), defScope (inClass (topS 19) 0), [], []⟩
def d13 : He.DefD := ⟨("SevenAt", some "__init__"), "__init__", "SevenAt.__init__", defArgs (inClass (topS 20) 0), defBody (inClass (topS 20) 0), defScope (inClass (topS 20) 0), [], []⟩
def d14 : He.DefD := ⟨("UnitNot", some "__init__"), "__init__", "UnitNot.__init__", defArgs (inClass (topS 22) 0), defBody (inClass (topS 22) 0), defScope (inClass (topS 22) 0), [], []⟩
def d15 : He.DefD := ⟨("SumNot", some "__init__"), "__init__", "SumNot.__init__", defArgs (inClass (topS 24) 0), defBody (inClass (topS 24) 0), defScope (inClass (topS 24) 0), [], []⟩
def d16 : He.DefD := ⟨("PartsNot", some "__init__"), "__init__", "PartsNot.__init__", defArgs (inClass (topS 26) 0), defBody (inClass (topS 26) 0), defScope (inClass (topS 26) 0), [], []⟩
def d17 : He.DefD := ⟨("EvenCover", some "__init__"), "__init__", "EvenCover.__init__", defArgs (inClass (topS 28) 0), defBody (inClass (topS 28) 0), defScope (inClass (topS 28) 0), [], []⟩
def d18 : He.DefD := ⟨("WholeFlow", some "__init__"), "__init__", "WholeFlow.__init__", defArgs (inClass (topS 29) 0), defBody (inClass (topS 29) 0), defScope (inClass (topS 29) 0), [], []⟩
def d19 : He.DefD := ⟨("EvenWays", some "__init__"), "__init__", "EvenWays.__init__", defArgs (inClass (topS 32) 0), defBody (inClass (topS 32) 0), defScope (inClass (topS 32) 0), [], []⟩
def d20 : He.DefD := ⟨("ManyOver", some "__init__"), "__init__", "ManyOver.__init__", defArgs (inClass (topS 35) 0), defBody (inClass (topS 35) 0), defScope (inClass (topS 35) 0), [], []⟩
def d21 : He.DefD := ⟨("FreeCover", some "__init__"), "__init__", "FreeCover.__init__", defArgs (inClass (topS 37) 0), defBody (inClass (topS 37) 0), defScope (inClass (topS 37) 0), [], []⟩
def d22 : He.DefD := ⟨("LoneRing", some "__init__"), "__init__", "LoneRing.__init__", defArgs (inClass (topS 38) 0), defBody (inClass (topS 38) 0), defScope (inClass (topS 38) 0), [], []⟩
def d23 : He.DefD := ⟨("BasePack", some "__init__"), "__init__", "BasePack.__init__", defArgs (inClass (topS 39) 0), defBody (inClass (topS 39) 0), defScope (inClass (topS 39) 0), [], []⟩
def d24 : He.DefD := ⟨("HeavyBase", some "__init__"), "__init__", "HeavyBase.__init__", defArgs (inClass (topS 41) 0), defBody (inClass (topS 41) 0), defScope (inClass (topS 41) 0), [], []⟩
def d25 : He.DefD := ⟨("OwnNot", some "__init__"), "__init__", "OwnNot.__init__", defArgs (inClass (topS 44) 0), defBody (inClass (topS 44) 0), defScope (inClass (topS 44) 0), [], []⟩
def d26 : He.DefD := ⟨("SumWrong", some "__init__"), "__init__", "SumWrong.__init__", defArgs (inClass (topS 47) 0), defBody (inClass (topS 47) 0), defScope (inClass (topS 47) 0), [], []⟩
def d27 : He.DefD := ⟨("ShortGame", some "__init__"), "__init__", "ShortGame.__init__", defArgs (inClass (topS 49) 0), defBody (inClass (topS 49) 0), defScope (inClass (topS 49) 0), [], []⟩
def d28 : He.DefD := ⟨("CutGame", some "__init__"), "__init__", "CutGame.__init__", defArgs (inClass (topS 50) 0), defBody (inClass (topS 50) 0), defScope (inClass (topS 50) 0), [], []⟩
def d29 : He.DefD := ⟨("TwoSplit", some "__init__"), "__init__", "TwoSplit.__init__", defArgs (inClass (topS 53) 0), defBody (inClass (topS 53) 0), defScope (inClass (topS 53) 0), [], []⟩
def d30 : He.DefD := ⟨("WebOf", some "__init__"), "__init__", "WebOf.__init__", defArgs (inClass (topS 56) 0), defBody (inClass (topS 56) 0), defScope (inClass (topS 56) 0), [], []⟩
def d31 : He.DefD := ⟨("NoWeb", some "__init__"), "__init__", "NoWeb.__init__", defArgs (inClass (topS 57) 0), defBody (inClass (topS 57) 0), defScope (inClass (topS 57) 0), [], []⟩
def d32 : He.DefD := ⟨("_law_pen", none), "_law_pen", "_law_pen", defArgs (topS 59), defBody (topS 59), defScope (topS 59), [], []⟩
def d33 : He.DefD := ⟨("_law_draw", none), "_law_draw", "_law_draw", defArgs (topS 60), defBody (topS 60), defScope (topS 60), [], []⟩
def d34 : He.DefD := ⟨("_law_pick", none), "_law_pick", "_law_pick", defArgs (topS 61), defBody (topS 61), defScope (topS 61), [], []⟩
def d35 : He.DefD := ⟨("_law_made_a", none), "_law_made_a", "_law_made_a", defArgs (topS 62), defBody (topS 62), defScope (topS 62), [], []⟩
def d36 : He.DefD := ⟨("_law_made_b", none), "_law_made_b", "_law_made_b", defArgs (topS 63), defBody (topS 63), defScope (topS 63), [], []⟩
def d37 : He.DefD := ⟨("_law_made_c", none), "_law_made_c", "_law_made_c", defArgs (topS 64), defBody (topS 64), defScope (topS 64), [], []⟩
def d38 : He.DefD := ⟨("_law_bare", none), "_law_bare", "_law_bare", defArgs (topS 65), defBody (topS 65), defScope (topS 65), [], []⟩
def d39 : He.DefD := ⟨("_law_value", none), "_law_value", "_law_value", defArgs (topS 66), defBody (topS 66), defScope (topS 66), [], []⟩
def d40 : He.DefD := ⟨("_law_copy", none), "_law_copy", "_law_copy", defArgs (topS 67), defBody (topS 67), defScope (topS 67), [], []⟩
def d41 : He.DefD := ⟨("law", none), "law", "law", defArgs (topS 68), defBody (topS 68), defScope (topS 68), [], []⟩
def dfn_0 : List He.DefD := [d0, d1, d2, d3, d4, d5, d6, d7, d8, d9, d10, d11, d12, d13, d14, d15, d16, d17, d18, d19, d20, d21, d22, d23, d24, d25, d26, d27, d28, d29]
def dfn_1 : List He.DefD := [d30, d31, d32, d33, d34, d35, d36, d37, d38, d39, d40, d41]
def dfn : List He.DefD := dfn_0 ++ dfn_1
def dfa_0 : List He.Fa := [.glo "copied", .glo "_law_pen", .glo "_law_draw", .glo "_law_pick", .glo "_law_made_a", .glo "_law_made_b", .glo "_law_made_c", .glo "_law_bare", .glo "_law_value", .glo "_law_copy", .glo "law", .free "int", .free "isinstance", .free "len", .free "list", .free "range", .free "repr", .free "tuple"]
def dfa : List He.Fa := dfa_0
def dlo_0 : List PySem.Str := ["copied", "Even", "Four", "MeetBreak", "SumBreak", "BaseBreak", "FlatBreak", "ExchangeBreak", "InBoth", "RingLess", "CutLess", "EvenTable", "ThreeTable", "Signed", "SevenAt", "UnitTable", "UnitNot", "FourSums", "SumNot", "PartsEver", "PartsNot", "EvenCover", "WholeFlow", "OddEver", "EvenWays", "FewOver", "ManyOver", "FreeCover", "LoneRing", "BasePack"]
def dlo_1 : List PySem.Str := ["HeavyBase", "OwnEver", "OwnNot", "SumsRight", "SumWrong", "ShortGame", "CutGame", "FirstGame", "TwoSplit", "NoSplit", "WebOf", "NoWeb", "_law_pen", "_law_draw", "_law_pick", "_law_made_a", "_law_made_b", "_law_made_c", "_law_bare", "_law_value", "_law_copy"]
def dlo : List PySem.Str := dlo_0 ++ dlo_1
def tcn_0 : List PySem.Str := ["Even", "Four", "MeetBreak", "SumBreak", "BaseBreak", "FlatBreak", "ExchangeBreak", "InBoth", "RingLess", "CutLess", "EvenTable", "ThreeTable", "Signed", "SevenAt", "UnitTable", "UnitNot", "FourSums", "SumNot", "PartsEver", "PartsNot", "EvenCover", "WholeFlow", "OddEver", "EvenWays", "FewOver", "ManyOver", "FreeCover", "LoneRing", "BasePack", "HeavyBase"]
def tcn_1 : List PySem.Str := ["OwnEver", "OwnNot", "SumsRight", "SumWrong", "ShortGame", "CutGame", "FirstGame", "TwoSplit", "NoSplit", "WebOf", "NoWeb"]
def tcn : List PySem.Str := tcn_0 ++ tcn_1
def tna_0 : List (Nat × PySem.Str) := [(1, "lot"), (1, "things"), (2, "cut"), (2, "ring"), (3, "one"), (3, "other"), (4, "base"), (4, "ring"), (5, "above"), (5, "flat"), (6, "one"), (6, "other"), (6, "thing"), (7, "lot"), (8, "lot"), (9, "lot"), (10, "rows"), (11, "rows"), (12, "rows"), (13, "kind"), (13, "names"), (15, "columns"), (15, "lines"), (17, "columns"), (17, "lines"), (19, "lines"), (20, "lots"), (21, "row"), (23, "one"), (23, "other")]
def tna_1 : List (Nat × PySem.Str) := [(23, "thing"), (25, "above"), (25, "flat"), (26, "lot"), (26, "lots"), (27, "thing"), (28, "bases"), (28, "lot"), (29, "base"), (29, "chain"), (31, "base"), (31, "ring"), (33, "one"), (33, "other"), (34, "one"), (34, "other"), (35, "one"), (35, "other"), (37, "lot"), (37, "one"), (37, "other"), (39, "places"), (39, "ties"), (40, "gone"), (40, "kind"), (40, "pressed_lot")]
def tna : List (Nat × PySem.Str) := tna_0 ++ tna_1
def tiss_0 : List (Nat × Nat) := [(0, 0), (1, 1), (2, 2), (3, 3), (4, 4), (5, 5), (6, 6), (7, 7), (8, 8), (9, 9), (10, 10), (11, 11), (12, 12), (13, 13), (14, 14), (15, 15), (16, 16), (17, 17), (18, 18), (19, 19), (20, 20), (21, 21), (22, 22), (23, 23), (24, 24), (25, 25), (26, 26), (27, 27), (28, 28), (29, 29)]
def tiss_1 : List (Nat × Nat) := [(30, 30), (31, 31), (32, 32), (33, 33), (34, 34), (35, 35), (36, 36), (37, 37), (38, 38), (39, 39), (40, 40)]
def tiss : List (Nat × Nat) := tiss_0 ++ tiss_1
def tkws_0 : List (Nat × List PySem.Str × List Nat) := [(1, ["things", "lot"], [1, 0]), (2, ["cut", "ring"], [1, 0]), (3, ["other", "one"], [1, 0]), (4, ["ring", "base"], [1, 0]), (5, ["above", "flat"], [1, 0]), (6, ["thing", "other", "one"], [2, 1, 0]), (7, ["lot"], [0]), (8, ["lot"], [0]), (9, ["lot"], [0]), (10, ["rows"], [0]), (11, ["rows"], [0]), (12, ["rows"], [0]), (13, ["names", "kind"], [1, 0]), (15, ["columns", "lines"], [1, 0]), (17, ["columns", "lines"], [1, 0]), (19, ["lines"], [0]), (20, ["lots"], [0]), (21, ["row"], [0]), (23, ["thing", "other", "one"], [2, 1, 0]), (25, ["above", "flat"], [1, 0]), (26, ["lot", "lots"], [1, 0]), (27, ["thing"], [0]), (28, ["lot", "bases"], [1, 0]), (29, ["chain", "base"], [1, 0]), (31, ["ring", "base"], [1, 0]), (33, ["other", "one"], [1, 0]), (34, ["other", "one"], [1, 0]), (35, ["other", "one"], [1, 0]), (37, ["other", "one", "lot"], [2, 1, 0]), (39, ["ties", "places"], [1, 0])]
def tkws_1 : List (Nat × List PySem.Str × List Nat) := [(40, ["pressed_lot", "gone", "kind"], [2, 1, 0])]
def tkws : List (Nat × List PySem.Str × List Nat) := tkws_0 ++ tkws_1
def tT : ClsT := ⟨tcn, tna, tiss, allc, [0, 14, 16, 18, 22, 24, 30, 32, 36, 38], [(1, 6), (2, 7), (3, 8), (4, 9), (5, 10), (6, 11), (7, 12), (8, 13), (9, 14), (10, 15), (11, 16), (12, 17), (13, 18), (15, 19), (17, 20), (19, 21), (20, 22), (21, 23), (23, 24), (25, 25), (26, 26), (27, 27), (28, 28), (29, 29), (31, 30), (33, 31), (34, 32), (35, 33), (37, 34), (39, 35), (40, 36)], tkws⟩
end Lw

set_option Elab.async false
set_option linter.all false
set_option maxRecDepth 100000
set_option maxHeartbeats 0
namespace Lw
open PySem PySem.Spec PyProof.Rows L2 Ev
abbrev R : PySem.W.OpenRow := PySem.W.OpenLaw.row PySem.Challenge.rw_evenrings_k90_classes_made_by_hand
abbrev hk : PySem.W.Hook := hookM 4 dfa dfn (exC tT)
def ob (s : PySem.W.SharedT) : He.AlD := obMG 4 dfa dfn (exC tT) (HandSHeadRun.getT s)
theorem ob_eq (s : PySem.W.SharedT) : ob s = hk.obs s.abs := obMG_eq (HandSHeadRun.getT_eq s)
theorem run (w : World) : HandSHeadRun.RunEq R (PySem.W.view R.prog [68]) hk ob 60000 dlo w := by
  intro os
  kernel_rfl
end Lw

set_option Elab.async false
set_option linter.all false
set_option maxRecDepth 100000
namespace Ev
open PySem PySem.Spec PyProof.Rows L2

/-- H' has all that F has -/
def Sb (F H : Hp) : Prop := ∀ a o, F a = some o → H a = some o
theorem Sb.refl (F : Hp) : Sb F F := fun _ _ h => h
theorem Sb.trans {F G H : Hp} (x : Sb F G) (y : Sb G H) : Sb F H := fun a o h => y a o (x a o h)
theorem Sb.rd {F H : Hp} (x : Sb F H) {a : Addr} {u : HO} (h : Rd F a u) : Rd H a u := by
  rcases h with h | ⟨o, h⟩
  · exact .inl (x a _ h)
  · exact .inr ⟨o, x a _ h⟩
theorem Sb.l {K : PySem.W.Frag} {F H : Hp} (x : Sb F H) {a : Addr} {xs : List V} (h : SqL K F a xs) : SqL K H a xs := by
  rcases h with h | h
  · exact .inl (x.rd h)
  · exact .inr h
theorem Sb.t {K : PySem.W.Frag} {F H : Hp} (x : Sb F H) {a : Addr} {xs : List V} (h : SqT K F a xs) : SqT K H a xs := by
  rcases h with h | h
  · exact .inl (x.rd h)
  · exact .inr h
theorem Sb.upd {F H : Hp} {p : Addr} {o : HO} (x : Sb F H) (h : H p = none) : Sb (L2.upd F p o) (L2.upd H p o) := fun a u e => by
  by_cases q : a = p
  · subst q; rw [upd_same] at e ⊢; exact e
  · rw [upd_ne q] at e ⊢; exact x a u e
theorem Sb.updr {F H : Hp} {p : Addr} {o : HO} (x : Sb F H) (h : F p = none) : Sb F (L2.upd H p o) := fun a u e => by
  rw [upd_ne (ne_of_none e h)]; exact x a u e
theorem Sb.new {F : Hp} {p : Addr} {o : HO} (h : F p = none) : Sb F (L2.upd F p o) := (Sb.refl F).updr h
theorem Sb.none {F H : Hp} (x : Sb F H) {p : Addr} (h : H p = none) : F p = none := by
  cases e : F p with
  | none => rfl
  | some o => rw [x p o e] at h; cases h

def kD : Key → D
  | .inl i => .int i
  | .inr x => .str x
def ktD (k : List Key) : D := .tup (k.map kD)

/-- where the text's classes and defs stand -/
structure Lk where
  K : PySem.W.Frag
  ca : Nat → Addr
  ga : Nat → Addr

section
variable (L : Lk) (F : Hp) (I : List Addr)
mutual
inductive DR : V → D → Prop
  | non : DR .non .non
  | bl (b : Bool) : DR (.bl b) (.bl b)
  | int (i : Int) : DR (.int i) (.int i)
  | str (x : Str) : DR (.str x) (.str x)
  | tup {a : Addr} {vs : List V} {xs : List D} (h : SqT L.K F a vs) (r : DRs vs xs) : DR (.ref a) (.tup xs)
  | lst {a : Addr} {vs : List V} {xs : List D} (h : SqL L.K F a vs) (r : DRs vs xs) : DR (.ref a) (.lst xs)
  | dK {a : Addr} {kvs : List (Key × V)} {vs : List D} (h : F a = some (.dK kvs)) (r : DRs (kvs.map (·.2)) vs) : DR (.ref a) (.dct (kvs.map fun p => kD p.1) vs)
  | rng {a : Addr} {lo hi : Int} (h : F a = some (.rng lo hi)) : DR (.ref a) (.rng lo hi)
  | obj {a dx : Addr} {c : Nat} {fs : List (Str × V)} {vs : List D} (h : F a = some (.ins (L.ca c) dx fs)) (r : DRs (fs.map (·.2)) vs) : DR (.ref a) (.obj c (fs.map (·.1)) vs)
  | ref {n : Nat} {a : Addr} (h : I[n]? = some a) : DR (.ref a) (.ref n)
  | glo (g : Nat) : DR (.ref (L.ga g)) (.glo g)
  | any (v : V) : DR v .any
inductive DRs : List V → List D → Prop
  | nil : DRs [] []
  | cons {v : V} {d : D} {vs : List V} {ds : List D} (h : DR v d) (t : DRs vs ds) : DRs (v :: vs) (d :: ds)
end
end

theorem DRs.length {L : Lk} {F : Hp} {I : List Addr} : ∀ {vs : List V} {ds : List D}, DRs L F I vs ds → vs.length = ds.length
  | _, _, .nil => rfl
  | _, _, .cons _ t => congrArg (· + 1) t.length

mutual
theorem DR.mono {L : Lk} {F F' : Hp} {I I' : List Addr} (hF : Sb F F') (hI : ∀ (n : Nat) (a : Addr), I[n]? = some a → I'[n]? = some a) : ∀ {v : V} {d : D}, DR L F I v d → DR L F' I' v d
  | _, _, .non => .non
  | _, _, .bl b => .bl b
  | _, _, .int i => .int i
  | _, _, .str x => .str x
  | _, _, .tup h r => .tup (hF.t h) (DRs.mono hF hI r)
  | _, _, .lst h r => .lst (hF.l h) (DRs.mono hF hI r)
  | _, _, .dK h r => .dK (hF _ _ h) (DRs.mono hF hI r)
  | _, _, .rng h => .rng (hF _ _ h)
  | _, _, .obj h r => .obj (hF _ _ h) (DRs.mono hF hI r)
  | _, _, .ref h => .ref (hI _ _ h)
  | _, _, .glo g => .glo g
  | _, _, .any v => .any v
theorem DRs.mono {L : Lk} {F F' : Hp} {I I' : List Addr} (hF : Sb F F') (hI : ∀ (n : Nat) (a : Addr), I[n]? = some a → I'[n]? = some a) : ∀ {vs : List V} {ds : List D}, DRs L F I vs ds → DRs L F' I' vs ds
  | _, _, .nil => .nil
  | _, _, .cons h t => .cons (DR.mono hF hI h) (DRs.mono hF hI t)
end

section
variable {L : Lk} {F : Hp} {I : List Addr}
theorem DRs.get : ∀ {vs : List V} {ds : List D} {i : Nat} {d : D}, DRs L F I vs ds → ds[i]? = some d → ∃ v, vs[i]? = some v ∧ DR L F I v d
  | _, _, _, _, .nil, h => by simp at h
  | _, _, 0, _, .cons h t, e => by simp at e; subst e; exact ⟨_, rfl, h⟩
  | _, _, i + 1, _, .cons h t, e => by
    obtain ⟨v, h1, h2⟩ := t.get (i := i) (by simpa using e)
    exact ⟨v, by simpa using h1, h2⟩
theorem DRs.getV : ∀ {vs : List V} {ds : List D} {i : Nat} {v : V}, DRs L F I vs ds → vs[i]? = some v → ∃ d, ds[i]? = some d ∧ DR L F I v d
  | _, _, _, _, .nil, h => by simp at h
  | _, _, 0, _, .cons h t, e => by simp at e; subst e; exact ⟨_, rfl, h⟩
  | _, _, i + 1, _, .cons h t, e => by
    obtain ⟨v, h1, h2⟩ := t.getV (i := i) (by simpa using e)
    exact ⟨v, by simpa using h1, h2⟩
theorem DRs.append : ∀ {vs ws : List V} {ds es : List D}, DRs L F I vs ds → DRs L F I ws es → DRs L F I (vs ++ ws) (ds ++ es)
  | _, _, _, _, .nil, s => s
  | _, _, _, _, .cons h t, s => .cons h (t.append s)
theorem DRs.set : ∀ {vs : List V} {ds : List D} {v : V} {d : D} (i : Nat), DRs L F I vs ds → DR L F I v d → DRs L F I (vs.set i v) (ds.set i d)
  | _, _, _, _, _, .nil, _ => .nil
  | _, _, _, _, 0, .cons h t, r => .cons r t
  | _, _, _, _, i + 1, .cons h t, r => .cons h (t.set i r)
theorem DRs.ints {vs : List V} : ∀ {is : List Int}, DRs L F I vs (is.map .int) → vs = is.map V.int
  | [], h => by cases h; rfl
  | i :: is, h => by
    cases h with
    | cons h t => cases h; rw [List.map_cons, DRs.ints t]
end
theorem intsOf_eq : ∀ {xs : List D} {is : List Int}, intsOf xs = some is → xs = is.map .int
  | [], is, h => by cases h; rfl
  | .int i :: r, is, h => by
    simp only [intsOf, Option.map_eq_some_iff] at h
    obtain ⟨js, h1, rfl⟩ := h
    rw [intsOf_eq h1, List.map_cons]
  | .non :: _, _, h | .bl _ :: _, _, h | .str _ :: _, _, h | .tup _ :: _, _, h | .lst _ :: _, _, h | .dct _ _ :: _, _, h | .rng _ _ :: _, _, h | .obj _ _ _ :: _, _, h | .ref _ :: _, _, h | .glo _ :: _, _, h | .any :: _, _, h => by simp [intsOf] at h
theorem blsOf_eq : ∀ {xs : List D} {is : List Bool}, blsOf xs = some is → xs = is.map .bl
  | [], is, h => by cases h; rfl
  | .bl i :: r, is, h => by
    simp only [blsOf, Option.map_eq_some_iff] at h
    obtain ⟨js, h1, rfl⟩ := h
    rw [blsOf_eq h1, List.map_cons]
  | .non :: _, _, h | .int _ :: _, _, h | .str _ :: _, _, h | .tup _ :: _, _, h | .lst _ :: _, _, h | .dct _ _ :: _, _, h | .rng _ _ :: _, _, h | .obj _ _ _ :: _, _, h | .ref _ :: _, _, h | .glo _ :: _, _, h | .any :: _, _, h => by simp [blsOf] at h
theorem DRs.bls {L : Lk} {F : Hp} {I : List Addr} {vs : List V} : ∀ {is : List Bool}, DRs L F I vs (is.map .bl) → vs = is.map V.bl
  | [], h => by cases h; rfl
  | i :: is, h => by
    cases h with
    | cons h t => cases h; rw [List.map_cons, DRs.bls t]

/-! plain data -/
mutual
theorem DR.dp {L : Lk} {F : Hp} {I : List Addr} : ∀ {v : V} {d : D} {p : PyData}, DR L F I v d → d.toP = some p → Dp L.K F v p
  | _, _, _, .non, e => by cases e; exact .non
  | _, _, _, .bl b, e => by cases e; exact .bl b
  | _, _, _, .int i, e => by cases e; exact .int i
  | _, _, _, .str x, e => by cases e; exact .str x
  | _, _, _, .tup (xs := xs) h r, e => by
    simp only [D.toP, Option.map_eq_some_iff] at e
    obtain ⟨ps, e1, rfl⟩ := e
    exact .tup h (DRs.dp r e1)
  | _, _, _, .lst (xs := xs) h r, e => by
    simp only [D.toP, Option.map_eq_some_iff] at e
    obtain ⟨ps, e1, rfl⟩ := e
    exact .lst h (DRs.dp r e1)
  | _, _, _, .dK h r, e => by simp [D.toP] at e
  | _, _, _, .rng h, e => by simp [D.toP] at e
  | _, _, _, .obj h r, e => by simp [D.toP] at e
  | _, _, _, .ref h, e => by simp [D.toP] at e
  | _, _, _, .glo g, e => by simp [D.toP] at e
  | _, _, _, .any v, e => by simp [D.toP] at e
theorem DRs.dp {L : Lk} {F : Hp} {I : List Addr} : ∀ {vs : List V} {ds : List D} {ps : List PyData}, DRs L F I vs ds → D.toPs ds = some ps → DpAll L.K F vs ps
  | _, _, _, .nil, e => by simp only [D.toPs, Option.some.injEq] at e; subst e; exact .nil
  | _, _, _, .cons h t, e => by
    simp only [D.toPs, Option.bind_eq_some_iff, Option.map_eq_some_iff] at e
    obtain ⟨p, e1, ps, e2, rfl⟩ := e
    exact .cons (DR.dp h e1) (DRs.dp t e2)
end
end Ev

set_option Elab.async false
set_option linter.all false
set_option maxRecDepth 100000
namespace Ev
open PySem PySem.Spec PyProof.Rows L2

/-- what is fixed: the frozen part of the heap, the cells' addresses -/
structure Wd where
  F : Hp
  I : List Addr
structure Wd.le (w w' : Wd) : Prop where
  f : Sb w.F w'.F
  i : ∀ (n : Nat) (a : Addr), w.I[n]? = some a → w'.I[n]? = some a
theorem Wd.le.refl (w : Wd) : w.le w := ⟨Sb.refl _, fun _ _ h => h⟩
theorem Wd.le.trans {a b c : Wd} (x : a.le b) (y : b.le c) : a.le c := ⟨x.f.trans y.f, fun n q h => y.i n q (x.i n q h)⟩
theorem Wd.le.mem {w w' : Wd} (x : w.le w') {a : Addr} (h : a ∈ w.I) : a ∈ w'.I := by
  obtain ⟨n, e⟩ := List.mem_iff_getElem?.mp h
  exact List.mem_of_getElem? (x.i n a e)

/-- what stands through a def's run: where the text stands, the heap and the cells at the entry -/
structure Pm where
  L : Lk
  H0 : Hp
  F0 : Hp
  I0 : List Addr

abbrev DRw (L : Lk) (w : Wd) : V → D → Prop := DR L w.F w.I
abbrev DRsw (L : Lk) (w : Wd) : List V → List D → Prop := DRs L w.F w.I
theorem DR.up {L : Lk} {w w' : Wd} (x : w.le w') {v : V} {d : D} (h : DRw L w v d) : DRw L w' v d := h.mono x.f x.i
theorem DRs.up {L : Lk} {w w' : Wd} (x : w.le w') {v : List V} {d : List D} (h : DRsw L w v d) : DRsw L w' v d := h.mono x.f x.i

def CellR (L : Lk) (w : Wd) (H : Hp) (a : Addr) : Cell → Prop
  | .lst xs => ∃ vs, H a = some (.lst vs) ∧ DRsw L w vs xs
  | .dct ks ds => ∃ kvs : List (Key × V), H a = some (.dK kvs) ∧ ks = kvs.map (fun p => kD p.1) ∧ DRsw L w (kvs.map (·.2)) ds
  | .ins c ns ds => ∃ dx fs, H a = some (.ins (L.ca c) dx fs) ∧ ns = fs.map (·.1) ∧ DRsw L w (fs.map (·.2)) ds
theorem CellR.up {L : Lk} {w w' : Wd} {H : Hp} {a : Addr} (x : w.le w') : ∀ {c : Cell}, CellR L w H a c → CellR L w' H a c
  | .lst _, ⟨vs, h, r⟩ => ⟨vs, h, r.up x⟩
  | .dct _ _, ⟨kvs, h, e, r⟩ => ⟨kvs, h, e, r.up x⟩
  | .ins _ _ _, ⟨dx, fs, h, e, r⟩ => ⟨dx, fs, h, e, r.up x⟩
theorem CellR.at {L : Lk} {w : Wd} {H H' : Hp} {a : Addr} (x : H' a = H a) : ∀ {c : Cell}, CellR L w H a c → CellR L w H' a c
  | .lst _, ⟨vs, h, r⟩ => ⟨vs, x.trans h, r⟩
  | .dct _ _, ⟨kvs, h, e, r⟩ => ⟨kvs, x.trans h, e, r⟩
  | .ins _ _ _, ⟨dx, fs, h, e, r⟩ => ⟨dx, fs, x.trans h, e, r⟩
theorem CellR.there {L : Lk} {w : Wd} {H : Hp} {a : Addr} : ∀ {c : Cell}, CellR L w H a c → ∃ o, H a = some o
  | .lst _, ⟨vs, h, r⟩ => ⟨_, h⟩
  | .dct _ _, ⟨kvs, h, e, r⟩ => ⟨_, h⟩
  | .ins _ _ _, ⟨dx, fs, h, e, r⟩ => ⟨_, h⟩

structure Mem (P : Pm) (w : Wd) (H : Hp) (S : Store) : Prop where
  sub : Sb w.F H
  f0 : Sb P.F0 w.F
  ent : ∀ a o, P.H0 a = some o → a ∉ P.I0 → H a = some o
  i0 : ∀ a ∈ P.I0, a ∈ w.I
  cn : ∀ a ∈ w.I, a ∈ P.I0 ∨ P.H0 a = none
  fr : ∀ a ∈ w.I, w.F a = none
  fz : ∀ a o, w.F a = some o → P.F0 a = some o ∨ P.H0 a = none
  nd : w.I.Nodup
  len : w.I.length = S.length
  cell : ∀ (n : Nat) (c : Cell) (a : Addr), S[n]? = some c → w.I[n]? = some a → CellR P.L w H a c
theorem Mem.there {P : Pm} {w : Wd} {H : Hp} {S : Store} (m : Mem P w H S) {a : Addr} (h : a ∈ w.I) : ∃ o, H a = some o := by
  obtain ⟨n, e⟩ := List.mem_iff_getElem?.mp h
  have hn : n < S.length := by rw [← m.len]; exact (List.getElem?_eq_some_iff.mp e).1
  exact (m.cell n S[n] a (List.getElem?_eq_getElem hn) e).there
theorem Mem.no0 {P : Pm} {w : Wd} {H : Hp} {S : Store} (m : Mem P w H S) {p : Addr} (h : H p = none) : P.H0 p = none ∧ p ∉ w.I ∧ w.F p = none := by
  have h1 : p ∉ w.I := fun z => by
    obtain ⟨o, e⟩ := m.there z
    rw [h] at e; cases e
  refine ⟨?_, h1, m.sub.none h⟩
  cases e : P.H0 p with
  | none => rfl
  | some o =>
    rw [m.ent p o e fun z => h1 (m.i0 p z)] at h
    cases h
theorem Mem.fzNew {P : Pm} {w : Wd} {H : Hp} {S : Store} (m : Mem P w H S) {p : Addr} {v : HO} (n0 : P.H0 p = none) : ∀ a o, upd w.F p v a = some o → P.F0 a = some o ∨ P.H0 a = none := fun a o e => by
  by_cases q : a = p
  · exact .inr (by rw [q]; exact n0)
  · rw [upd_ne q] at e
    exact m.fz a o e
/-- a new object, frozen -/
theorem Mem.new {P : Pm} {w : Wd} {H : Hp} {S : Store} (m : Mem P w H S) {p : Addr} {o : HO} (h : H p = none) : Mem P ⟨upd w.F p o, w.I⟩ (upd H p o) S := by
  obtain ⟨n0, nI, nF⟩ := m.no0 h
  have le : w.le ⟨upd w.F p o, w.I⟩ := ⟨Sb.new nF, fun _ _ h => h⟩
  refine ⟨m.sub.upd h, m.f0.trans (Sb.new nF), fun a u e hi => ?_, m.i0, m.cn, fun a ha => ?_, Mem.fzNew m n0, m.nd, m.len, fun n c a e1 e2 => ?_⟩
  · rw [upd_ne (ne_of_none e n0)]; exact m.ent a u e hi
  · show upd w.F p o a = none
    rw [upd_ne (show a ≠ p from fun z => nI (by rw [← z]; exact ha))]; exact m.fr a ha
  · exact ((m.cell n c a e1 e2).at (upd_ne (show a ≠ p from fun z => nI (by rw [← z]; exact List.mem_of_getElem? e2)))).up le
/-- an object that is neither frozen nor a cell nor older than the entry is written -/
theorem Mem.write {P : Pm} {w : Wd} {H : Hp} {S : Store} (m : Mem P w H S) {p : Addr} {o : HO} (n0 : P.H0 p = none) (nI : p ∉ w.I) (nF : w.F p = none) : Mem P w (upd H p o) S := by
  refine ⟨m.sub.updr nF, m.f0, fun a u e hi => ?_, m.i0, m.cn, m.fr, m.fz, m.nd, m.len, fun n c a e1 e2 => ?_⟩
  · rw [upd_ne (ne_of_none e n0)]; exact m.ent a u e hi
  · exact (m.cell n c a e1 e2).at (upd_ne (show a ≠ p from fun z => nI (by rw [← z]; exact List.mem_of_getElem? e2)))
/-- what stands there is frozen -/
theorem Mem.freeze {P : Pm} {w : Wd} {H : Hp} {S : Store} (m : Mem P w H S) {p : Addr} {o : HO} (h : H p = some o) (n0 : P.H0 p = none) (nI : p ∉ w.I) (nF : w.F p = none) : Mem P ⟨upd w.F p o, w.I⟩ H S := by
  have le : w.le ⟨upd w.F p o, w.I⟩ := ⟨Sb.new nF, fun _ _ h => h⟩
  refine ⟨fun a u e => ?_, m.f0.trans (Sb.new nF), m.ent, m.i0, m.cn, fun a ha => ?_, Mem.fzNew m n0, m.nd, m.len, fun n c a e1 e2 => (m.cell n c a e1 e2).up le⟩
  · have e : upd w.F p o a = some u := e
    by_cases q : a = p
    · subst q; rw [upd_same] at e; cases e; exact h
    · rw [upd_ne q] at e; exact m.sub a u e
  · show upd w.F p o a = none
    rw [upd_ne (show a ≠ p from fun z => nI (by rw [← z]; exact ha))]; exact m.fr a ha
/-- a new cell -/
theorem Mem.newCell {P : Pm} {w : Wd} {H : Hp} {S : Store} (m : Mem P w H S) {p : Addr} {o : HO} {c : Cell} (h : H p = none)
    (r : CellR P.L ⟨w.F, w.I ++ [p]⟩ (upd H p o) p c) : Mem P ⟨w.F, w.I ++ [p]⟩ (upd H p o) (S ++ [c]) ∧ w.le ⟨w.F, w.I ++ [p]⟩ := by
  obtain ⟨n0, nI, nF⟩ := m.no0 h
  have le : w.le ⟨w.F, w.I ++ [p]⟩ := ⟨Sb.refl _, fun n a e => by
    have hn := (List.getElem?_eq_some_iff.mp e).1
    show (w.I ++ [p])[n]? = some a
    rw [List.getElem?_append_left hn]; exact e⟩
  refine ⟨⟨m.sub.updr nF, m.f0, fun a u e hi => ?_, fun a ha => List.mem_append_left _ (m.i0 a ha), fun a ha => ?_, fun a ha => ?_, m.fz, ?_, ?_, fun n c' a e1 e2 => ?_⟩, le⟩
  · rw [upd_ne (ne_of_none e n0)]; exact m.ent a u e hi
  · rcases List.mem_append.mp ha with z | z
    · exact m.cn a z
    · rw [List.mem_singleton.mp z]; exact .inr n0
  · rcases List.mem_append.mp ha with z | z
    · exact m.fr a z
    · rw [List.mem_singleton.mp z]; exact nF
  · exact List.nodup_append.mpr ⟨m.nd, (by simp), fun a ha b hb => fun z => nI (by rw [← List.mem_singleton.mp hb, ← z]; exact ha)⟩
  · show (w.I ++ [p]).length = (S ++ [c]).length
    rw [List.length_append, List.length_append, m.len]; rfl
  · have e2 : (w.I ++ [p])[n]? = some a := e2
    by_cases hn : n < S.length
    · rw [List.getElem?_append_left hn] at e1
      rw [List.getElem?_append_left (by rw [m.len]; exact hn)] at e2
      exact ((m.cell n c' a e1 e2).at (upd_ne (show a ≠ p from fun z => nI (by rw [← z]; exact List.mem_of_getElem? e2)))).up le
    · have hl : n < S.length + 1 := by have := (List.getElem?_eq_some_iff.mp e1).1; rw [List.length_append] at this; exact this
      have en : n = S.length := by omega
      subst en
      rw [List.getElem?_append_right (Nat.le_refl _), Nat.sub_self] at e1
      rw [List.getElem?_append_right (by rw [m.len]; exact Nat.le_refl _), m.len, Nat.sub_self] at e2
      cases e1; cases e2
      exact r
/-- a cell is written -/
theorem Mem.setCell {P : Pm} {w : Wd} {H : Hp} {S : Store} (m : Mem P w H S) {n : Nat} {p : Addr} {o : HO} {c : Cell} (h : w.I[n]? = some p) (r : CellR P.L w (upd H p o) p c) : Mem P w (upd H p o) (S.set n c) := by
  have nF := m.fr p (List.mem_of_getElem? h)
  refine ⟨m.sub.updr nF, m.f0, fun a u e hi => ?_, m.i0, m.cn, m.fr, m.fz, m.nd, by rw [List.length_set]; exact m.len, fun k c' a e1 e2 => ?_⟩
  · have ne : a ≠ p := fun z => by
      rcases m.cn p (List.mem_of_getElem? h) with q | q
      · exact hi (z ▸ q)
      · rw [z, q] at e; cases e
    rw [upd_ne ne]; exact m.ent a u e hi
  · by_cases hk : k = n
    · subst hk
      rw [h] at e2; cases e2
      have hl : k < S.length := by
        have := (List.getElem?_eq_some_iff.mp e1).1
        rw [List.length_set] at this; exact this
      rw [List.getElem?_set_self hl] at e1
      cases e1; exact r
    · rw [List.getElem?_set_ne (Ne.symm hk)] at e1
      have ne : a ≠ p := fun z => by
        subst z
        have h1 := (List.getElem?_eq_some_iff.mp h)
        have h2 := (List.getElem?_eq_some_iff.mp e2)
        obtain ⟨l1, q1⟩ := h1
        obtain ⟨l2, q2⟩ := h2
        exact hk ((List.getElem_inj m.nd).mp (q2.trans q1.symm))
      exact (m.cell k c' a e1 e2).at (upd_ne ne)
theorem Mem.noI {P : Pm} {w : Wd} {H : Hp} {S : Store} (m : Mem P w H S) {a : Addr} {o : HO} (h : w.F a = some o) : a ∉ w.I := fun z => by
  rw [m.fr a z] at h; cases h

/-! ### slots -/
def SV.own : SV → Bool
  | .v _ => false
  | _ => true
def SVR (L : Lk) (w : Wd) (H : Hp) (v : V) : SV → Prop
  | .v d => DRw L w v d
  | .ol xs => ∃ a vs, v = .ref a ∧ H a = some (.lst vs) ∧ DRsw L w vs xs
  | .od ks ds => ∃ a kvs, v = .ref a ∧ H a = some (.dK kvs) ∧ ks = kvs.map (fun p => kD p.1) ∧ DRsw L w (kvs.map (·.2)) ds
  | .oo c ns ds => ∃ a dx fs, v = .ref a ∧ H a = some (.ins (L.ca c) dx fs) ∧ ns = fs.map (·.1) ∧ DRsw L w (fs.map (·.2)) ds
theorem SVR.up {L : Lk} {w w' : Wd} {H : Hp} {v : V} (x : w.le w') : ∀ {sv : SV}, SVR L w H v sv → SVR L w' H v sv
  | .v _, h => DR.up x h
  | .ol _, ⟨a, vs, e, h, r⟩ => ⟨a, vs, e, h, r.up x⟩
  | .od _ _, ⟨a, k, e, h, q, r⟩ => ⟨a, k, e, h, q, r.up x⟩
  | .oo _ _ _, ⟨a, dx, fs, e, h, q, r⟩ => ⟨a, dx, fs, e, h, q, r.up x⟩
/-- an own object's address, and that it stands -/
theorem SVR.ref {L : Lk} {w : Wd} {H : Hp} {v : V} : ∀ {sv : SV}, SVR L w H v sv → sv.own = true → ∃ a o, v = .ref a ∧ H a = some o
  | .v _, _, h => by cases h
  | .ol _, ⟨a, vs, e, h, r⟩, _ => ⟨a, _, e, h⟩
  | .od _ _, ⟨a, k, e, h, q, r⟩, _ => ⟨a, _, e, h⟩
  | .oo _ _ _, ⟨a, dx, fs, e, h, q, r⟩, _ => ⟨a, _, e, h⟩
/-- the heap changes elsewhere -/
theorem SVR.at {L : Lk} {w : Wd} {H H' : Hp} {v : V} : ∀ {sv : SV}, SVR L w H v sv → (∀ a, sv.own = true → v = .ref a → H' a = H a) → SVR L w H' v sv
  | .v _, h, _ => h
  | .ol _, ⟨a, vs, e, h, r⟩, q => ⟨a, vs, e, (q a rfl e).trans h, r⟩
  | .od _ _, ⟨a, k, e, h, z, r⟩, q => ⟨a, k, e, (q a rfl e).trans h, z, r⟩
  | .oo _ _ _, ⟨a, dx, fs, e, h, z, r⟩, q => ⟨a, dx, fs, e, (q a rfl e).trans h, z, r⟩

def Owns (en : Env) (σ : L2.St) (i : Nat) (a : Addr) : Prop := ∃ sv, en.get i = some sv ∧ sv.own = true ∧ σ[i]? = some (some (.ref a))
structure Rep (P : Pm) (w : Wd) (H : Hp) (σ : L2.St) (en : Env) : Prop where
  mem : Mem P w H en.s
  len : en.r.length = σ.length
  slot : ∀ i sv, en.get i = some sv → ∃ v, σ[i]? = some (some v) ∧ SVR P.L w H v sv
  own : ∀ i a, Owns en σ i a → w.F a = none ∧ P.H0 a = none ∧ a ∉ w.I
  dis : ∀ i j a, Owns en σ i a → Owns en σ j a → i = j
/-- a value that has just come -/
structure TR (P : Pm) (w : Wd) (H : Hp) (σ : L2.St) (en : Env) (v : V) (sv : SV) : Prop where
  is : SVR P.L w H v sv
  own : sv.own = true → ∀ a, v = .ref a → w.F a = none ∧ P.H0 a = none ∧ a ∉ w.I ∧ ∀ i, ¬ Owns en σ i a
theorem TR.v {P : Pm} {w : Wd} {H : Hp} {σ : L2.St} {en : Env} {v : V} {d : D} (h : DRw P.L w v d) : TR P w H σ en v (.v d) := ⟨h, fun z => by cases z⟩
section
variable {P : Pm} {w : Wd} {H : Hp} {σ : L2.St} {en : Env}
theorem Rep.there (R : Rep P w H σ en) {i : Nat} {a : Addr} (h : Owns en σ i a) : ∃ o, H a = some o := by
  obtain ⟨sv, e, ho, hσ⟩ := h
  obtain ⟨v, e1, r⟩ := R.slot i sv e
  obtain ⟨b, o, e2, e3⟩ := r.ref ho
  rw [hσ] at e1; cases e1; cases e2
  exact ⟨o, e3⟩
theorem Rep.noOwn (R : Rep P w H σ en) {p : Addr} (h : H p = none) (i : Nat) : ¬ Owns en σ i p := fun z => by
  obtain ⟨o, e⟩ := R.there z
  rw [h] at e; cases e
/-- a new frozen object -/
theorem Rep.new (R : Rep P w H σ en) {p : Addr} {o : HO} (h : H p = none) : Rep P ⟨upd w.F p o, w.I⟩ (upd H p o) σ en ∧ w.le ⟨upd w.F p o, w.I⟩ := by
  obtain ⟨n0, nI, nF⟩ := R.mem.no0 h
  have le : w.le ⟨upd w.F p o, w.I⟩ := ⟨Sb.new nF, fun _ _ h => h⟩
  refine ⟨⟨R.mem.new h, R.len, fun i sv e => ?_, fun i a z => ?_, R.dis⟩, le⟩
  · obtain ⟨v, e1, r⟩ := R.slot i sv e
    exact ⟨v, e1, (r.at fun a ho ea => upd_ne fun q => R.noOwn h i ⟨sv, e, ho, by rw [e1, ea, q]⟩).up le⟩
  · obtain ⟨a1, a2, a3⟩ := R.own i a z
    refine ⟨?_, a2, a3⟩
    show upd w.F p o a = none
    rw [upd_ne (show a ≠ p from fun q => R.noOwn h i (by rw [← q]; exact z))]; exact a1
/-- a new object of one's own -/
theorem Rep.newOwn (R : Rep P w H σ en) {p : Addr} {o : HO} {sv : SV} (h : H p = none) (r : SVR P.L w (upd H p o) (.ref p) sv) : Rep P w (upd H p o) σ en ∧ TR P w (upd H p o) σ en (.ref p) sv := by
  obtain ⟨n0, nI, nF⟩ := R.mem.no0 h
  refine ⟨⟨R.mem.write n0 nI nF, R.len, fun i sv e => ?_, R.own, R.dis⟩, ⟨r, fun _ a e => ?_⟩⟩
  · obtain ⟨v, e1, r⟩ := R.slot i sv e
    exact ⟨v, e1, r.at fun a ho ea => upd_ne fun q => R.noOwn h i ⟨sv, e, ho, by rw [e1, ea, q]⟩⟩
  · cases e
    exact ⟨nF, n0, nI, R.noOwn h⟩
/-- a value that has come is frozen -/
theorem Rep.freeze (R : Rep P w H σ en) {v : V} {sv : SV} {d : D} (T : TR P w H σ en v sv) (e : sv.d = some d) : ∃ w', w.le w' ∧ Rep P w' H σ en ∧ DRw P.L w' v d := by
  have key : ∀ (a : Addr) (o : HO), v = .ref a → H a = some o → sv.own = true → (∀ w' : Wd, w.le w' → w'.F a = some o → DRw P.L w' v d) → ∃ w', w.le w' ∧ Rep P w' H σ en ∧ DRw P.L w' v d := fun a o ev ea ho k => by
    obtain ⟨nF, n0, nI, nO⟩ := T.own ho a ev
    have le : w.le ⟨upd w.F a o, w.I⟩ := ⟨Sb.new nF, fun _ _ h => h⟩
    refine ⟨⟨upd w.F a o, w.I⟩, le, ⟨R.mem.freeze ea n0 nI nF, R.len, fun i sv e => ?_, fun i b z => ?_, R.dis⟩, k _ le upd_same⟩
    · obtain ⟨v, e1, r⟩ := R.slot i sv e
      exact ⟨v, e1, r.up le⟩
    · obtain ⟨a1, a2, a3⟩ := R.own i b z
      refine ⟨?_, a2, a3⟩
      show upd w.F a o b = none
      rw [upd_ne (show b ≠ a from fun q => nO i (by rw [← q]; exact z))]; exact a1
  cases sv with
  | v d' => cases e; exact ⟨w, .refl w, R, T.is⟩
  | ol xs =>
    cases e
    obtain ⟨a, vs, ev, ea, r⟩ := T.is
    exact key a _ ev ea rfl fun w' le h => by subst ev; exact .lst (.of h) (r.up le)
  | od ks ds =>
    cases e
    obtain ⟨a, kvs, ev, ea, ek, r⟩ := T.is
    exact key a _ ev ea rfl fun w' le h => by subst ev ek; exact .dK h (r.up le)
  | oo c ns ds =>
    cases e
    obtain ⟨a, dx, fs, ev, ea, en, r⟩ := T.is
    exact key a _ ev ea rfl fun w' le h => by subst ev en; exact .obj h (r.up le)
theorem Rep.mono (R : Rep P w H σ en) {w' : Wd} {H' : Hp} {S : Store} (le : w.le w') (m : Mem P w' H' S) (hH : ∀ i a, Owns en σ i a → H' a = H a) (hF : ∀ i a, Owns en σ i a → w'.F a = none ∧ a ∉ w'.I) : Rep P w' H' σ ⟨en.r, S⟩ :=
  have ow : ∀ {i a}, Owns ⟨en.r, S⟩ σ i a → Owns en σ i a := fun h => h
  ⟨m, R.len, fun i sv e => by
    obtain ⟨v, e1, r⟩ := R.slot i sv e
    exact ⟨v, e1, (r.at fun a ho ea => hH i a ⟨sv, e, ho, by rw [e1, ea]⟩).up le⟩, fun i a z => ⟨(hF i a (ow z)).1, (R.own i a (ow z)).2.1, (hF i a (ow z)).2⟩, fun i j a x y => R.dis i j a (ow x) (ow y)⟩
/-- behind a callee: P1 its entry -/
theorem Mem.back {P P1 : Pm} {w w' : Wd} {H H' : Hp} {S S' : Store} (m : Mem P w H S) (m' : Mem P1 w' H' S') (hL : P1.L = P.L) (hI : P1.I0 = w.I) (hF : P1.F0 = w.F)
    (h1 : ∀ a o, H a = some o → P1.H0 a = some o) (h2 : ∀ a, P1.H0 a = none → H a = none) : Mem P w' H' S' := by
  have no : ∀ a, P1.H0 a = none → P.H0 a = none := fun a h => (m.no0 (h2 a h)).1
  refine ⟨m'.sub, m.f0.trans (by rw [← hF]; exact m'.f0), fun a o e hi => ?_, fun a ha => m'.i0 a (by rw [hI]; exact m.i0 a ha), fun a ha => ?_, m'.fr, fun a o e => ?_, m'.nd, m'.len, fun n c a e1 e2 => by rw [← hL]; exact m'.cell n c a e1 e2⟩
  · refine m'.ent a o (h1 a o (m.ent a o e hi)) fun z => ?_
    rw [hI] at z
    rcases m.cn a z with q | q
    · exact hi q
    · rw [q] at e; cases e
  · rcases m'.cn a ha with q | q
    · rw [hI] at q; exact m.cn a q
    · exact .inr (no a q)
  · rcases m'.fz a o e with q | q
    · rw [hF] at q; exact m.fz a o q
    · exact .inr (no a q)
theorem Rep.call {P1 : Pm} {w' : Wd} {H' : Hp} {S' : Store} (R : Rep P w H σ en) (le : w.le w') (m' : Mem P1 w' H' S') (hL : P1.L = P.L) (hI : P1.I0 = w.I) (hF : P1.F0 = w.F)
    (h1 : ∀ a o, H a = some o → P1.H0 a = some o) (h2 : ∀ a, P1.H0 a = none → H a = none) : Rep P w' H' σ ⟨en.r, S'⟩ := by
  refine R.mono le (R.mem.back m' hL hI hF h1 h2) (fun i a z => ?_) fun i a z => ?_
  · obtain ⟨o, e⟩ := R.there z
    obtain ⟨a1, a2, a3⟩ := R.own i a z
    rw [m'.ent a o (h1 a o e) (by rw [hI]; exact a3), e]
  · obtain ⟨o, e⟩ := R.there z
    obtain ⟨a1, a2, a3⟩ := R.own i a z
    refine ⟨?_, fun q => ?_⟩
    · cases q : w'.F a with
      | none => rfl
      | some u =>
        rcases m'.fz a u q with r | r
        · rw [hF, a1] at r; cases r
        · rw [h1 a o e] at r; cases r
    · rcases m'.cn a q with r | r
      · rw [hI] at r; exact a3 r
      · rw [h1 a o e] at r; cases r
theorem get_set_self {e : Env} {i : Nat} {x : Option SV} (h : i < e.r.length) : (e.set i x).get i = x := by
  unfold Env.get Env.set
  rw [List.getElem?_set_self h]; rfl
theorem get_set_ne {e : Env} {i j : Nat} {x : Option SV} (h : j ≠ i) : (e.set i x).get j = e.get j := by
  unfold Env.get Env.set
  rw [List.getElem?_set_ne (Ne.symm h)]
theorem get_lt {e : Env} {i : Nat} {sv : SV} (h : e.get i = some sv) : i < e.r.length := by
  unfold Env.get at h
  by_cases q : i < e.r.length
  · exact q
  · rw [List.getElem?_eq_none (by omega)] at h; cases h
/-- a slot is stored (or forgotten) -/
theorem Rep.store (R : Rep P w H σ en) {i : Nat} {v : V} {sv : SV} (hi : i < en.r.length) (T : TR P w H σ en v sv) : Rep P w H (σ.set i (some v)) (en.set i (some sv)) := by
  have hσ : i < σ.length := by rw [← R.len]; exact hi
  have ow : ∀ {j a}, j ≠ i → Owns (en.set i (some sv)) (σ.set i (some v)) j a → Owns en σ j a := fun {j a} hj ⟨s', e, ho, q⟩ => by
    rw [get_set_ne hj] at e
    rw [List.getElem?_set_ne (Ne.symm hj)] at q
    exact ⟨s', e, ho, q⟩
  have ows : ∀ {a}, Owns (en.set i (some sv)) (σ.set i (some v)) i a → sv.own = true ∧ v = .ref a := fun {a} ⟨s', e, ho, q⟩ => by
    rw [get_set_self hi] at e; cases e
    rw [List.getElem?_set_self hσ] at q; cases q
    exact ⟨ho, rfl⟩
  refine ⟨R.mem, by show (en.r.set i _).length = _; rw [List.length_set, List.length_set]; exact R.len, fun j s' e => ?_, fun j a z => ?_, fun j k a z1 z2 => ?_⟩
  · by_cases hj : j = i
    · subst hj
      rw [get_set_self hi] at e; cases e
      exact ⟨v, List.getElem?_set_self hσ, T.is⟩
    · rw [get_set_ne hj] at e
      rw [List.getElem?_set_ne (Ne.symm hj)]
      exact R.slot j s' e
  · by_cases hj : j = i
    · subst hj
      obtain ⟨ho, ev⟩ := ows z
      obtain ⟨a1, a2, a3, _⟩ := T.own ho a ev
      exact ⟨a1, a2, a3⟩
    · exact R.own j a (ow hj z)
  · by_cases hj : j = i
    · by_cases hk : k = i
      · rw [hj, hk]
      · subst hj
        obtain ⟨ho, ev⟩ := ows z1
        exact absurd (ow hk z2) ((T.own ho a ev).2.2.2 k)
    · by_cases hk : k = i
      · subst hk
        obtain ⟨ho, ev⟩ := ows z2
        exact absurd (ow hj z1) ((T.own ho a ev).2.2.2 j)
      · exact R.dis j k a (ow hj z1) (ow hk z2)
/-- what is known of slots is forgotten -/
theorem Rep.weak (R : Rep P w H σ en) {r' : List (Option SV)} {σ' : L2.St} (hl : r'.length = σ'.length) (hs : ∀ (i : Nat) sv, Env.get ⟨r', en.s⟩ i = some sv → en.get i = some sv ∧ σ'[i]? = σ[i]?) : Rep P w H σ' ⟨r', en.s⟩ := by
  have ow : ∀ {j a}, Owns ⟨r', en.s⟩ σ' j a → Owns en σ j a := fun {j a} ⟨s', e, ho, q⟩ => by
    obtain ⟨e1, e2⟩ := hs j s' e
    exact ⟨s', e1, ho, by rw [← e2]; exact q⟩
  refine ⟨R.mem, hl, fun i sv e => ?_, fun i a z => R.own i a (ow z), fun i j a z1 z2 => R.dis i j a (ow z1) (ow z2)⟩
  obtain ⟨e1, e2⟩ := hs i sv e
  obtain ⟨v, e3, r⟩ := R.slot i sv e1
  exact ⟨v, by rw [e2]; exact e3, r⟩
end
end Ev

set_option Elab.async false
set_option linter.all false
set_option maxRecDepth 100000
set_option maxHeartbeats 1000000
namespace Ev
open PySem PySem.Spec PyProof.Rows L2

/-- an exception of a class of the text -/
def XR (L : Lk) (w : Wd) (H : Hp) (cls : Value) (d : Option Addr) (x : Exc) : Prop :=
  cls = .ref (L.ca x.c) ∧ ∃ dd fs, d = some dd ∧ H dd = some (.xd fs) ∧ x.ns = fs.map (·.1) ∧ DRsw L w (fs.map (·.2)) x.vs

/-- what is wanted behind an expression -/
def PostG {α : Type} (P : Pm) (W : XK) (σ : L2.St) (w : Wd) (R : Res Env α) (K : Wd → Hp → Env → α → Prop) : Prop := match R with
  | .ok a en => ∀ w' H', w.le w' → Rep P w' H' σ en → K w' H' en a
  | .err x S => ∀ cls d w' H', w.le w' → Mem P w' H' S → XR P.L w' H' cls d x → W cls d H'
  | .bad => False
def tE (P : Pm) (W : XK) (G : List Fn) (x : Ex) : TE := fun σ H Q => ∃ w en, Rep P w H σ en ∧ PostG P W σ w (ev G x en) fun w' H' en' sv => ∀ v, TR P w' H' σ en' v sv → Q v H'
def tD (P : Pm) (W : XK) (G : List Fn) (x : Ex) : TE := fun σ H Q => ∃ w en, Rep P w H σ en ∧ PostG P W σ w (toD (ev G x en)) fun w' H' _ d => ∀ v, DRw P.L w' v d → Q v H'
def tA (P : Pm) (W : XK) (G : List Fn) (x : Ex) : TA := fun σ H Q => ∃ w en, Rep P w H σ en ∧ PostG P W σ w (toA (ev G x en)) fun w' H' _ ds => ∀ vs, DRsw P.L w' vs ds → Q vs H'
def tT (P : Pm) (W : XK) (G : List Fn) (x : Ex) : TT := fun σ H Q => ∃ w en, Rep P w H σ en ∧ PostG P W σ w (toD (ev G x en)) fun _ H' _ d => ∃ b, d = .bl b ∧ Q b H'

section
variable {α β : Type} {P : Pm} {W : XK} {σ : L2.St} {w w0 : Wd} {H : Hp} {G : List Fn}
theorem PostG.imp {R : Res Env α} {K K' : Wd → Hp → Env → α → Prop} (h : PostG P W σ w R K) (i : ∀ w' H' en a, w.le w' → Rep P w' H' σ en → K w' H' en a → K' w' H' en a) : PostG P W σ w R K' := by
  cases R with
  | ok sv en => exact fun w' H' a b => i _ _ _ _ a b (h w' H' a b)
  | err x S => exact h
  | bad => exact h
theorem PostG.low {R : Res Env α} {K : Wd → Hp → Env → α → Prop} (h : PostG P W σ w0 R K) (x : w0.le w) : PostG P W σ w R K := by
  cases R with
  | ok sv en => exact fun w' H' a b => h w' H' (x.trans a) b
  | err y S => exact fun cls d w' H' a b c => h cls d w' H' (x.trans a) b c
  | bad => exact h
theorem PostG.bind {R : Res Env α} {k : α → Env → Res Env β} {K : Wd → Hp → Env → β → Prop} (h : PostG P W σ w (R.bind k) K) : PostG P W σ w R fun w' _ en a => PostG P W σ w' (k a en) K := by
  cases R with
  | ok a en => exact fun w' H' le R => PostG.low h le
  | err x S => exact h
  | bad => exact h
theorem PostG.opt {o : Option α} {en : Env} {K : Wd → Hp → Env → α → Prop} (h : PostG P W σ w (Res.opt o en) K) : ∃ a, o = some a ∧ ∀ w' H', w.le w' → Rep P w' H' σ en → K w' H' en a := by
  cases o with
  | none => exact h.elim
  | some a => exact ⟨a, rfl, h⟩
theorem PostG.toD {R : Res Env SV} {K : Wd → Hp → Env → D → Prop} (h : PostG P W σ w (toD R) K) : PostG P W σ w R fun w1 H1 e1 sv => ∀ v, TR P w1 H1 σ e1 v sv → ∃ w' d, w1.le w' ∧ Rep P w' H1 σ e1 ∧ DRw P.L w' v d ∧ K w' H1 e1 d := by
  refine PostG.imp (PostG.bind h) fun w1 H1 e1 sv le R1 q v T => ?_
  obtain ⟨d, ed, q⟩ := q.opt
  obtain ⟨w', le', R', r⟩ := R1.freeze T ed
  exact ⟨w', d, le', R', r, q w' H1 le' R'⟩
/-- a subexpression as a value, then the rest -/
theorem PostG.useD {R : Res Env SV} {k : D → Env → Res Env β} {K : Wd → Hp → Env → β → Prop} (h : PostG P W σ w ((Ev.toD R).bind k) K) :
    PostG P W σ w R fun w1 H1 e1 sv => ∀ v, TR P w1 H1 σ e1 v sv → ∃ w' d, w1.le w' ∧ Rep P w' H1 σ e1 ∧ DRw P.L w' v d ∧ PostG P W σ w' (k d e1) K := PostG.toD (PostG.bind h)
theorem PostG.to {R : Res Env α} {K : Wd → Hp → Env → α → Prop} (h : PostG P W σ w R K) {a : α} {en : Env} (e : R = .ok a en) (Rp : Rep P w H σ en) : K w H en a := by subst e; exact h w H (.refl w) Rp
theorem PostG.at {a : α} {en : Env} {K : Wd → Hp → Env → α → Prop} (h : PostG P W σ w (.ok a en) K) (R : Rep P w H σ en) : K w H en a := h w H (.refl w) R
end

theorem PE_imp {X : Cx} {e : Expr} {t t' : TE} (h : PE X e t) (i : ∀ σ H Q, t' σ H Q → t σ H Q) : PE X e t' := ⟨fun pins s σ H Q I q => h.run pins s σ H Q I (i σ H Q q)⟩
theorem PT_imp {X : Cx} {e : Expr} {t t' : TT} (h : PT X e t) (i : ∀ σ H Q, t' σ H Q → t σ H Q) : PT X e t' := ⟨fun pins s σ H Q I q => h.run pins s σ H Q I (i σ H Q q)⟩
theorem PA_imp {X : Cx} {e : List Expr} {t t' : TA} (h : PA X e t) (i : ∀ σ H Q, t' σ H Q → t σ H Q) : PA X e t' := ⟨fun pos pins s σ H Q I q => h.run pos pins s σ H Q I (i σ H Q q)⟩

/-- what a def promises, by its function -/
def spOf (L : Lk) (f : Fn) : Sp := fun vs H Q E => ∃ (w : Wd) (ds : List D) (S : Store), Mem ⟨L, H, w.F, w.I⟩ w H S ∧ DRsw L w vs ds ∧ match f ds S with
  | .ok d S' => ∀ v w' H', w.le w' → Mem ⟨L, H, w.F, w.I⟩ w' H' S' → DRw L w' v d → Q v H'
  | .err x S' => ∀ cls d w' H', w.le w' → Mem ⟨L, H, w.F, w.I⟩ w' H' S' → XR L w' H' cls d x → E cls d H'
  | .bad => False
/-- as the layer's FnOk, where no repr runs around the call -/
structure FnG (Pr : Program) (wo : World) (K : PySem.W.Frag) (mg : Str → Option Value) (base : Heap) (k : Nat) (f : Addr) (fd : FuncData) (ps : List Str) (sp : Sp) : Prop where
  arity : ∀ vs H Q E, sp vs H Q E → vs.length = ps.length
  runs : ∀ {A : Around} {outer : List PySem.Env} {s : Shared} {H : Hp} {args : Args} {us : List Value} {vs : List V} {Q : VK} {E : XK}, A.guards = some [] → Room k A → Env0 Pr wo K mg base A outer s H →
    BindsTo s fd args (ps.zip us) → Vals vs us → sp vs H Q E → codeAny (model Pr wo) A (.call (.ref f) args) (CR (L2.CX Pr wo) outer Pr wo H s Q E) s
theorem FnG.of {Pr : Program} {wo : World} {K : PySem.W.Frag} {mg : Str → Option Value} {base : Heap} {k : Nat} {f : Addr} {fd : FuncData} {ps : List Str} {sp : Sp} (F : FnOk Pr wo K mg base (L2.CX Pr wo) k f fd ps sp) : FnG Pr wo K mg base k f fd ps sp :=
  ⟨F.len, fun _ r e b v h => F.run _ _ _ _ _ _ _ _ _ r e b v h⟩
theorem FnG.more {Pr : Program} {wo : World} {K : PySem.W.Frag} {mg : Str → Option Value} {base : Heap} {j k : Nat} {f : Addr} {fd : FuncData} {ps : List Str} {sp : Sp} (F : FnG Pr wo K mg base j f fd ps sp) (h : j ≤ k) : FnG Pr wo K mg base k f fd ps sp :=
  ⟨F.arity, fun g r e b v h' => F.runs g (r.mono h) e b v h'⟩
/-- the def of the name x keeps what f says -/
structure FnAt (X : Cx) (L : Lk) (k : Nat) (g : Nat) (x : Str) (f : Fn) : Prop where
  there : ∃ a fd ps, X.mg x = some (.ref a) ∧ L.ga g = a ∧ PySem.W.keepIn X.K (.ref a) = true ∧ Binds X.K fd ps [] ∧ FnG X.prog X.w X.K X.mg X.base k a fd ps (spOf L f)
/-- the heap without what stands at x -/
def hide (H : Hp) (x : Addr) : Hp := fun a => if a = x then none else H a
theorem hide_ne {H : Hp} {x a : Addr} (h : a ≠ x) : hide H x a = H a := by unfold hide; rw [if_neg h]
theorem hide_same {H : Hp} {x : Addr} : hide H x x = none := by unfold hide; rw [if_pos rfl]
/-- what an __init__ of the class c promises: f tells the fields -/
def spI (L : Lk) (c : Nat) (f : Fn) : Sp := fun vs H Q E => ∃ (w : Wd) (ds : List D) (S : Store) (x dx : Addr) (us : List V), vs = .ref x :: us ∧ H x = some (.ins (L.ca c) dx []) ∧ x ∉ w.I ∧ w.F x = none ∧
  Mem ⟨L, hide H x, w.F, w.I⟩ w H S ∧ DRsw L w us ds ∧ match f ds S with
  | .ok d S' => ∃ ns xs, d = .obj c ns xs ∧ ∀ w' H' dx' fs, w.le w' → Mem ⟨L, hide H x, w.F, w.I⟩ w' H' S' → H' x = some (.ins (L.ca c) dx' fs) → x ∉ w'.I → w'.F x = none → ns = fs.map (·.1) → DRsw L w' (fs.map (·.2)) xs → Q .non H'
  | .err y S' => ∀ cls d w' H', w.le w' → Mem ⟨L, hide H x, w.F, w.I⟩ w' H' S' → XR L w' H' cls d y → E cls d H'
  | .bad => False
/-- keywords in the parameters' order -/
def pickL {α : Type} (pm : List Nat) (xs : List α) : List α := pm.filterMap fun i => xs[i]?
/-- a class without __eq__, __ne__ of its own -/
def IdC (K : PySem.W.Frag) (C : Addr) : Prop := ∃ nm q N bs hdct sn sub ab col dd k0 k1 k2 k3 k5 newId, K.lookup C = some (excClassObj nm q C N bs [.type "object"] hdct sn sub ab col dd k0 k1 k2 k3 k5 newId) ∧
  PySem.W.nsOkIn K N = true ∧ PySem.W.nsIn K N "__eq__" = some none ∧ PySem.W.nsIn K N "__ne__" = some none
def Ty.nc : Ty → Bool
  | .cls _ => false
  | _ => true
/-- the class object of one of the text's classes -/
structure ClsX (K : PySem.W.Frag) (C : Addr) : Prop where
  cls : Cls K C
  ha : PySem.W.findIn K (.ref C) "__class__" = some (some (.builtin "object.__class__"))
  hn : PySem.W.specialIn K (.builtin "object.__class__") "__get__" = some (some (.builtin "getset_descriptor.__get__"))
  htk : PySem.W.takesIn K (.builtin "object.__class__") = some true
  hm : PySem.W.mroIn K C (.type "object") = some true
  own : ((PySem.W.clsIn K C).isSome && PySem.W.typeIn K (.ref C) == some (.type "type")) = true
  bty : ∀ t : Ty, t.nc = true → t ≠ .none → PySem.W.kitOne K (.ref C) (.type t.tn) = some false
structure CT (X : Cx) (L : Lk) (k : Nat) (G : List Fn) (T : ClsT) : Prop where
  cls : ∀ c x, T.cn[c]? = some x → ClsX X.K (L.ca c) ∧ X.mg x = some (.ref (L.ca c))
  noat : ∀ c f, (c, f) ∈ T.na → NoAttr X.K (L.ca c) f
  iss : ∀ c d, (c, d) ∈ T.iss → PySem.W.kitOne X.K (.ref (L.ca c)) (.ref (L.ca d)) = some (decide (c = d))
  idq : ∀ c ∈ T.idq, IdC X.K (L.ca c)
  mk0 : ∀ c ∈ T.mk0, PySem.W.makesIn X.K (L.ca c) = true ∧ PySem.W.findIn X.K (.ref (L.ca c)) "__init__" = some (some (.builtin "object.__init__")) ∧ PySem.W.keepIn X.K (.ref (L.ca c)) = true
  mkf : ∀ c g f, (c, g) ∈ T.mkf → G[g]? = some f → ∃ a fd ps, Mk X.K (L.ca c) a ∧ Binds X.K fd ps [] ∧ (∀ ks pm, (c, ks, pm) ∈ T.kws → KBn X.K fd ps 1 ks (fun us ws => us ++ pickL pm ws) (fun vs zs => vs ++ pickL pm zs)) ∧ ∃ j, j + 1 ≤ k ∧ FnG X.prog X.w X.K X.mg X.base j a fd ps (spI L c f)
  sysd : ∃ o, X.K.lookup sysModules = some o ∧ o.cls = .type "dict"
/-- a running body, or a comprehension's block -/
structure Cxt (X : Cx) (P : Pm) (N : List Str) (sc : Scope) (W : XK) (G : List Fn) (gn bn : List Str) (k : Nat) (T : ClsT) : Prop where
  hK : X.K = P.L.K
  n : X.N = N
  nd : N.Nodup
  scp : X.env.scope = sc
  calm : X.calm = true
  tk : Takes X (fun c d _ H => W c d H)
  room : Room k X.A
  grd : X.A.guards = some []
  bfree : ∀ x ∈ bn, X.mg x = none
  fns : ∀ (g : Nat) (f : Fn) (x : Str), G[g]? = some f → gn[g]? = some x → x ≠ "" → FnAt X P.L k g x f
  ct : CT X P.L k G T

section
variable {X : Cx} {P : Pm} {N : List Str} {sc : Scope} {W : XK} {G : List Fn} {gn bn : List Str} {k : Nat} {T : ClsT}

/-! ### names and constants -/
theorem snd_var (C : Cxt X P N sc W G gn bn k T) {i : Nat} {x : Str} {pos : Pos} (hN : N[i]? = some x) (hv : Vis sc x) (hd : (x == ("__debug__" : Str)) = false) (hcd : (x == ("__classdict__" : Str)) = false) : PE X (.Name x pos) (tE P W G (.var i)) := by
  refine PE_imp (pe_var (i := i) (by rw [C.n]; exact hN) (by rw [C.scp]; exact hv) hd hcd) fun σ H Q ⟨w, en, R, p⟩ => ?_
  have p : PostG P W σ w (rdV en i) _ := p
  unfold rdV at p
  have own : ∀ (sv : SV) (d : D), en.get i = some sv → sv.own = true → sv.d = some d → ∀ {K : Wd → Hp → Env → SV → Prop}, PostG P W σ w (.ok (.v d) (en.set i (some (.v d)))) K → ∃ v, σ[i]? = some (some v) ∧ ∃ w' H', K w' H' (en.set i (some (.v d))) (.v d) ∧ DRw P.L w' v d ∧ H' = H := fun sv d e ho ed K p => by
    obtain ⟨v, e1, r⟩ := R.slot i sv e
    obtain ⟨a, o, ev, ea⟩ := r.ref ho
    have hi := get_lt e
    have hσ : i < σ.length := by rw [← R.len]; exact hi
    -- without the slot
    have R1 : Rep P w H σ (en.set i none) := by
      have q := R.weak (r' := en.r.set i none) (σ' := σ) (by rw [List.length_set]; exact R.len) fun j s' ej => by
        by_cases hj : j = i
        · subst hj
          have : (en.set j none).get j = none := get_set_self hi
          rw [show (⟨en.r.set j none, en.s⟩ : Env) = en.set j none from rfl, this] at ej
          cases ej
        · rw [show (⟨en.r.set i none, en.s⟩ : Env) = en.set i none from rfl, get_set_ne hj] at ej
          exact ⟨ej, rfl⟩
      exact q
    have T : TR P w H σ (en.set i none) v sv := ⟨r, fun _ b eb => by
      obtain ⟨a1, a2, a3⟩ := R.own i b ⟨sv, e, ho, by rw [e1, eb]⟩
      refine ⟨a1, a2, a3, fun j ⟨s', ej, hj, q⟩ => ?_⟩
      by_cases hji : j = i
      · subst hji
        rw [get_set_self hi] at ej; cases ej
      · rw [get_set_ne hji] at ej
        exact hji (R.dis j i b ⟨s', ej, hj, q⟩ ⟨sv, e, ho, by rw [e1, eb]⟩)⟩
    obtain ⟨w', le, R2, r2⟩ := R1.freeze T ed
    have R3 := R2.store (i := i) (v := v) (sv := .v d) (by show i < (en.r.set i none).length; rw [List.length_set]; exact hi) (.v r2)
    have eσ : σ.set i (some v) = σ := List.ext_getElem? fun j => by
      by_cases hj : i = j
      · subst hj; rw [List.getElem?_set_self hσ, e1]
      · rw [List.getElem?_set_ne hj]
    have ee : (en.set i none).set i (some (.v d)) = en.set i (some (.v d)) := by
      unfold Env.set; simp
    rw [eσ, ee] at R3
    exact ⟨v, e1, w', H, p w' H le R3, r2, rfl⟩
  cases e : en.get i with
  | none => rw [e] at p; exact p.elim
  | some sv =>
    cases sv with
    | v d =>
      rw [e] at p
      obtain ⟨v, e1, r⟩ := R.slot i _ e
      exact ⟨v, e1, p w H (.refl w) R v (.v r)⟩
    | ol xs =>
      rw [e] at p
      obtain ⟨v, e1, w', H', q, r, eH⟩ := own (.ol xs) _ e rfl rfl p
      subst eH
      exact ⟨v, e1, q v (.v r)⟩
    | od ks vs =>
      rw [e] at p
      obtain ⟨v, e1, w', H', q, r, eH⟩ := own (.od ks vs) _ e rfl rfl p
      subst eH
      exact ⟨v, e1, q v (.v r)⟩
    | oo c ns vs => rw [e] at p; exact p.elim
theorem snd_c {e : Expr} {v : V} {d : D} {x : Ex} (h : PE X e (tC v)) (hx : ∀ en, ev G x en = .ok (.v d) en) (hr : ∀ (w : Wd), DRw P.L w v d) : PE X e (tE P W G x) := by
  refine PE_imp h fun σ H Q ⟨w, en, R, p⟩ => ?_
  rw [hx] at p
  exact p w H (.refl w) R v (.v (hr w))
theorem snd_int {i j pos} : PE X (.Constant (.int i) j pos) (tE P W G (.int i)) := snd_c pe_int (fun _ => rfl) fun _ => .int i
theorem snd_bl {b j pos} : PE X (.Constant (.bool b) j pos) (tE P W G (.bl b)) := snd_c pe_bl (fun _ => rfl) fun _ => .bl b
theorem snd_non {j pos} : PE X (.Constant .none j pos) (tE P W G .non) := snd_c pe_non (fun _ => rfl) fun _ => .non
theorem snd_str {x j pos} : PE X (.Constant (.str x) j pos) (tE P W G (.str x)) := snd_c pe_str (fun _ => rfl) fun _ => .str x

/-! ### lists of expressions, displays -/
theorem snd_D {e : Expr} {x : Ex} (h : PE X e (tE P W G x)) : PE X e (tD P W G x) :=
  PE_imp h fun σ H Q ⟨w, en, R, p⟩ => ⟨w, en, R, p.toD.imp fun w1 H1 e1 sv le R1 q v T => by
    obtain ⟨w', d, le', R', r, q⟩ := q v T
    exact q v r⟩
theorem snd_nil : PA X [] (tA P W G .nil) := PA_imp pa_nil fun σ H Q ⟨w, en, R, p⟩ => (p : PostG P W σ w (.ok [] en) _) w H (.refl w) R [] .nil
theorem toA_cons {a es : Ex} {en : Env} : toA (ev G (.cons a es) en) = (toD (ev G a en)).bind fun d e1 => (toA (ev G es e1)).bind fun ds e2 => .ok (d :: ds) e2 := by
  show toA ((toD (ev G a en)).bind fun d e1 => (toA (ev G es e1)).bind fun ds e2 => .ok (.v (.tup (d :: ds))) e2) = _
  unfold toA
  rw [Res.bind_assoc]
  congr 1
  funext d e1
  rw [Res.bind_assoc]
  rfl
theorem snd_cons {e : Expr} {es : List Expr} {a as : Ex} (ha : PE X e (tE P W G a)) (hs : PA X es (tA P W G as)) (hst : starEach (e :: es) X.env = (false, eval e X.env) :: starEach es X.env) : PA X (e :: es) (tA P W G (.cons a as)) := by
  refine PA_imp (pa_cons ha hs hst) fun σ H Q ⟨w, en, R, p⟩ => ?_
  rw [toA_cons] at p
  refine ⟨w, en, R, p.useD.imp fun w1 H1 e1 sv le R1 q v T => ?_⟩
  obtain ⟨w', d, le', R', r, q⟩ := q v T
  refine ⟨w', e1, R', q.bind.imp fun w2 H2 e2 ds le2 R2 q2 vs rs => ?_⟩
  exact q2.at R2 (v :: vs) (.cons (r.up le2) rs)
theorem lim_eq : lim = sizeLine := by rw [sizeLine_eq]; rfl
theorem snd_tup {es : List Expr} {x1 : Nat} {pos : Pos} {as : Ex} (h : PA X es (tA P W G as)) : PE X (.Tuple es x1 pos) (tE P W G (.tup as)) := by
  refine PE_imp (pe_tup h) fun σ H Q ⟨w, en, R, p⟩ => ⟨w, en, R, (PostG.bind (R := toA (ev G as en)) p).imp fun w1 H1 e1 ds le R1 q vs rs => ?_⟩
  have hl := rs.length
  split at q
  · rename_i hz
    refine ⟨by rw [hl, ← lim_eq]; exact hz, fun p hp => ?_⟩
    obtain ⟨R2, le2⟩ := R1.new (o := .tup vs) hp
    exact q _ _ le2 R2 _ (.v (.tup (.of upd_same) (rs.up le2)))
  · exact q.elim
theorem snd_disp {es : List Expr} {pos : Pos} {as : Ex} (h : PA X es (tA P W G as)) : PE X (.List es pos) (tE P W G (.disp as)) := by
  refine PE_imp (pe_lst h) fun σ H Q ⟨w, en, R, p⟩ => ⟨w, en, R, (PostG.bind (R := toA (ev G as en)) p).imp fun w1 H1 e1 ds le R1 q vs rs => ?_⟩
  have hl := rs.length
  split at q
  · rename_i hz
    refine ⟨by rw [hl, ← lim_eq]; exact hz, fun p hp => ?_⟩
    obtain ⟨R2, T⟩ := R1.newOwn (o := .lst vs) (sv := .ol ds) hp ⟨p, vs, rfl, upd_same, rs⟩
    exact q _ _ (.refl _) R2 _ T
  · exact q.elim
end
end Ev

set_option Elab.async false
set_option linter.all false
set_option maxRecDepth 100000
set_option maxHeartbeats 1000000
namespace Ev
open PySem PySem.Spec PyProof.Rows L2

def Bop.py : Bop → Operator
  | .add => .Add | .sub => .Sub | .mul => .Mult | .fdiv => .FloorDiv | .mod => .Mod | .pow => .Pow | .shl => .LShift | .shr => .RShift | .band => .BitAnd | .bxor => .BitXor
def Cop.py : Cop → CmpOp
  | .eq => .Eq | .ne => .NotEq | .lt => .Lt | .le => .LtE | .gt => .Gt | .ge => .GtE | .is => .Is | .isnot => .IsNot | .isin => .In | .notin => .NotIn

section
variable {X : Cx} {P : Pm} {N : List Str} {sc : Scope} {W : XK} {G : List Fn} {gn bn : List Str} {k : Nat} {T : ClsT}

/-- xs + ys, any lists that are read -/
theorem op_catS : OpR X (binaryOp .Add) (fun x y H Q => ∃ l b xs zs, x = .ref l ∧ y = .ref b ∧ SqL X.K H l xs ∧ SqL X.K H b zs ∧ xs.length + zs.length ≤ sizeLine ∧ ∀ p, H p = none → Q (.ref p) (upd H p (.lst (xs ++ zs)))) := by
  intro pins s σ H x y v u Q I rx ry h
  obtain ⟨l, b, xs, zs, rfl, rfl, hH, hB, hz, q⟩ := h
  cases rx
  cases ry
  obtain ⟨its, r, pl, _⟩ := I.list hH
  obtain ⟨its2, r2, pl2, _⟩ := I.list hB
  obtain ⟨⟨cls, dd, data, sl⟩, n, ho, hc, hdd, hd⟩ := pl
  obtain ⟨⟨cls2, dd2, data2, sl2⟩, n2, ho2, hc2, hdd2, hd2⟩ := pl2
  simp only at hc hd hc2 hd2
  subst hc hd hc2 hd2
  have e : its.toArray ++ its2.toArray = (its ++ its2).toArray := by simp
  have hl := r.length
  have hl2 := r2.length
  refine concat_meets ⟨_, ho, rfl⟩ ⟨_, ho2, rfl⟩ noFill_list_add seq_list_add PySem.F.slot_list_add PySem.F.entry_list_add (PySem.F.args_list_add_2 _ _) (list_addW l b its.toArray its2.toArray n n2 dd dd2 sl sl2 (by simp only [List.size_toArray]; omega)) ⟨ho, ho2, ?_⟩
  rw [e]
  exact ⟨.ref _, _, I.lnew (t' := s.toks) (r.append r2) (by rw [List.length_append]; omega), rfl, q _ I.fresh⟩

/-- an operator on values of ours -/
def rBin (P : Pm) (op : Bop) : R2 := fun x y H Q => ∃ σ w en d1 d2 sv, Rep P w H σ en ∧ DRw P.L w x d1 ∧ DRw P.L w y d2 ∧ binD op d1 d2 = some sv ∧ ∀ v w' H', w.le w' → Rep P w' H' σ en → TR P w' H' σ en v sv → Q v H'
theorem small_ok {i : Int} (h : small64 i = true) : -(2 ^ 64) < i ∧ i < 2 ^ 64 := by
  unfold small64 two64 at h
  simp only [Bool.and_eq_true, decide_eq_true_eq] at h
  omega
theorem op_int (op : Bop) : OpR X (binaryOp op.py) (fun x y H Q => ∃ i j k, x = .int i ∧ y = .int j ∧ binI op i j = some k ∧ Q (.int k) H) := by
  intro pins s σ H x y v u Q I rx ry ⟨i, j, k, ex, ey, e, q⟩
  cases op with
  | add => cases e; exact op_add pins s σ H x y v u Q I rx ry ⟨i, j, ex, ey, q⟩
  | sub => cases e; exact op_sub pins s σ H x y v u Q I rx ry ⟨i, j, ex, ey, q⟩
  | mul =>
    unfold binI at e
    simp only at e
    split at e
    · rename_i hs
      cases e
      rw [Bool.or_eq_true] at hs
      exact op_mul pins s σ H x y v u Q I rx ry ⟨i, j, ex, ey, hs.elim (fun z => .inl (small_ok z)) fun z => .inr (small_ok z), q⟩
    · cases e
  | fdiv =>
    unfold binI at e
    simp only at e
    split at e
    · rename_i hs
      cases e
      exact op_fdivN pins s σ H x y v u Q I rx ry ⟨i, j, ex, ey, hs, q⟩
    · cases e
  | mod =>
    unfold binI at e
    simp only at e
    split at e
    · rename_i hs
      cases e
      exact op_modN pins s σ H x y v u Q I rx ry ⟨i, j, ex, ey, hs, q⟩
    · cases e
  | pow =>
    unfold binI at e
    simp only at e
    split at e
    · rename_i hs
      cases e
      exact op_pow pins s σ H x y v u Q I rx ry ⟨i, j, ex, ey, ⟨hs.1, hs.2.1, hs.2.2⟩, q⟩
    · cases e
  | shl =>
    unfold binI at e
    simp only at e
    split at e
    · rename_i hs
      cases e
      exact op_shl pins s σ H x y v u Q I rx ry ⟨i, j, ex, ey, ⟨hs.1, hs.2.1, hs.2.2⟩, q⟩
    · cases e
  | shr =>
    unfold binI at e
    simp only at e
    split at e
    · rename_i hs
      cases e
      exact op_shr pins s σ H x y v u Q I rx ry ⟨i, j, ex, ey, hs, q⟩
    · cases e
  | band => cases e; exact op_and pins s σ H x y v u Q I rx ry ⟨i, j, ex, ey, q⟩
  | bxor => cases e; exact op_xor pins s σ H x y v u Q I rx ry ⟨i, j, ex, ey, q⟩
theorem op_bin (hK : X.K = P.L.K) (op : Bop) : OpR X (binaryOp op.py) (rBin P op) := by
  intro pins s σ0 H x y v u Q I rx ry ⟨σ, w, en, d1, d2, sv, R, r1, r2, e, q⟩
  unfold binD at e
  split at e
  · simp only [Option.map_eq_some_iff] at e
    obtain ⟨k, e, rfl⟩ := e
    cases r1; cases r2
    exact op_int op pins s σ0 H _ _ v u Q I rx ry ⟨_, _, k, rfl, rfl, e, q _ w H (.refl w) R (.v (.int k))⟩
  · split at e
    · rename_i hs
      cases e
      obtain ⟨rfl, hs⟩ := hs
      cases r1; cases r2
      exact op_add_str pins s σ0 H _ _ v u Q I rx ry ⟨_, _, rfl, rfl, by rw [← lim_eq]; exact hs, q _ w H (.refl w) R (.v (.str _))⟩
    · cases e
  · split at e
    · rename_i hs
      cases e
      obtain ⟨rfl, hs⟩ := hs
      cases r1 with
      | lst h1 t1 =>
      cases r2 with
      | lst h2 t2 =>
      have l1 := t1.length
      have l2 := t2.length
      refine op_catS pins s σ0 H _ _ v u Q I rx ry ⟨_, _, _, _, rfl, rfl, by rw [hK]; exact R.mem.sub.l h1, by rw [hK]; exact R.mem.sub.l h2, by rw [l1, l2, ← lim_eq]; exact hs, fun p hp => ?_⟩
      obtain ⟨R2, T⟩ := R.newOwn (sv := .ol _) hp ⟨p, _, rfl, upd_same, t1.append t2⟩
      exact q _ w _ (.refl w) R2 T
    · cases e
  · split at e
    · rename_i hs
      cases e
      obtain ⟨rfl, hs⟩ := hs
      cases r1 with
      | tup h1 t1 =>
      cases r2 with
      | tup h2 t2 =>
      have l1 := t1.length
      have l2 := t2.length
      refine op_catA pins s σ0 H _ _ v u Q I rx ry ⟨_, _, _, _, rfl, rfl, by rw [hK]; exact R.mem.sub.t h1, by rw [hK]; exact R.mem.sub.t h2, by rw [l1, l2, ← lim_eq]; exact hs, fun z => ?_, fun _ z => ?_, fun _ _ p hp => ?_⟩
      · subst z
        cases t1
        exact q _ w H (.refl w) R (.v (.tup h2 t2))
      · subst z
        cases t2
        rw [List.append_nil] at q
        exact q _ w H (.refl w) R (.v (.tup h1 t1))
      · obtain ⟨R2, le2⟩ := R.new (o := .tup _) hp
        exact q _ _ _ le2 R2 (.v (.tup (.of upd_same) ((t1.append t2).up le2)))
    · cases e
  · cases e
theorem snd_bin (C : Cxt X P N sc W G gn bn k T) {op : Bop} {a b : Expr} {pos : Pos} {xa xb : Ex} (ha : PE X a (tE P W G xa)) (hb : PE X b (tE P W G xb)) : PE X (.BinOp a op.py b pos) (tE P W G (.bin op xa xb)) := by
  refine PE_imp (pe_op (op_bin C.hK op) ha hb) fun σ H Q ⟨w, en, R, p⟩ => ⟨w, en, R, PostG.useD (k := fun x e1 => (toD (ev G xb e1)).bind fun y e2 => .opt (binD op x y) e2) p |>.imp fun w1 H1 e1 sv le R1 q v T => ?_⟩
  obtain ⟨w2, d1, le2, R2, r1, q⟩ := q v T
  refine ⟨w2, e1, R2, q.useD.imp fun w3 H3 e3 sv3 le3 R3 q3 v3 T3 => ?_⟩
  obtain ⟨w4, d2, le4, R4, r2, q4⟩ := q3 v3 T3
  obtain ⟨sv, e, q4⟩ := q4.opt
  exact ⟨σ, w4, e3, d1, d2, sv, R4, r1.up (le3.trans le4), r2, e, fun v w' H' a b c => q4 w' H' a b v c⟩
theorem snd_neg (C : Cxt X P N sc W G gn bn k T) {a : Expr} {pos : Pos} {xa : Ex} (ha : PE X a (tE P W G xa)) : PE X (.UnaryOp .USub a pos) (tE P W G (.neg xa)) := by
  refine PE_imp (pe_un un_neg ha) fun σ H Q ⟨w, en, R, p⟩ => ⟨w, en, R, PostG.useD (R := ev G xa en) p |>.imp fun w1 H1 e1 sv le R1 q v T => ?_⟩
  obtain ⟨w2, d1, le2, R2, r1, q⟩ := q v T
  split at q
  · cases r1
    exact ⟨_, rfl, q.at R2 _ (.v (.int _))⟩
  · exact q.elim
theorem snd_not {a : Expr} {pos : Pos} {xa : Ex} (ha : PE X a (tE P W G xa)) : PE X (.UnaryOp .Not a pos) (tE P W G (.not xa)) := by
  refine PE_imp (pe_not ha) fun σ H Q ⟨w, en, R, p⟩ => ⟨w, en, R, PostG.useD (R := ev G xa en) p |>.imp fun w1 H1 e1 sv le R1 q v T => ?_⟩
  obtain ⟨w2, d1, le2, R2, r1, q⟩ := q v T
  split at q
  · cases r1
    exact ⟨_, rfl, q.at R2 _ (.v (.bl _))⟩
  · exact q.elim

/-! ### comparisons -/
def rCmp (P : Pm) (op : Cop) : R2 := fun x y H Q => ∃ σ w en d1 d2 b, Rep P w H σ en ∧ DRw P.L w x d1 ∧ DRw P.L w y d2 ∧ cmpD op d1 d2 = some b ∧ Q (.bl b) H
theorem Dp_mono {K : PySem.W.Frag} {F H : Hp} (x : Sb F H) {v : V} {p : PyData} (h : Dp K F v p) : Dp K H v p := by
  refine Dp.rec (motive_1 := fun v p _ => Dp K H v p) (motive_2 := fun vs ps _ => DpAll K H vs ps) .non (fun b => .bl b) (fun i => .int i) (fun x => .str x) (fun h _ ih => .lst (x.l h) ih) (fun h _ ih => .tup (x.t h) ih) .nil (fun _ _ h t => .cons h t) h
theorem eqD_data {x y : D} {b : Bool} (h : eqD x y = some b) : ∃ p q, x.toP = some p ∧ y.toP = some q ∧ SeqAt.shaped p = true ∧ SeqAt.shaped q = true ∧ PyData.eqv p q = b := by
  unfold eqD at h
  simp only [Option.bind_eq_some_iff] at h
  obtain ⟨p, e1, q, e2, h⟩ := h
  split at h
  · rename_i hs
    cases h
    exact ⟨p, q, e1, e2, hs.1, hs.2, rfl⟩
  · cases h
theorem op_cmp (C : Cxt X P N sc W G gn bn k T) (op : Cop) (ho : op ≠ .isin ∧ op ≠ .notin) : OpR X (compareOp op.py) (rCmp P op) := by
  intro pins s σ0 H x y v u Q I rx ry ⟨σ, w, en, d1, d2, b, R, r1, r2, e, q⟩
  have bothI : ∀ {i j : Int}, d1 = .int i → d2 = .int j → x = .int i ∧ y = .int j := fun {i j} h1 h2 => by
    subst h1 h2
    cases r1; cases r2
    exact ⟨rfl, rfl⟩
  have hu : X.A.units + 64 < cLine := C.room.units
  have eqs : ∀ {b : Bool}, eqD d1 d2 = some b → ∃ p q', Dp X.K H x p ∧ Dp X.K H y q' ∧ SeqAt.shaped p = true ∧ SeqAt.shaped q' = true ∧ PyData.eqv p q' = b := fun {b} h => by
    obtain ⟨p, q', e1, e2, s1, s2, e3⟩ := eqD_data h
    rw [C.hK]
    exact ⟨p, q', Dp_mono R.mem.sub (r1.dp e1), Dp_mono R.mem.sub (r2.dp e2), s1, s2, e3⟩
  cases op with
  | eq =>
    obtain ⟨p, q', a1, a2, s1, s2, e3⟩ := eqs e
    exact op_eqD hu pins s σ0 H x y v u Q I rx ry ⟨p, q', a1, a2, s1, s2, by rw [e3]; exact q⟩
  | ne =>
    simp only [cmpD, Option.map_eq_some_iff] at e
    obtain ⟨b', e, rfl⟩ := e
    obtain ⟨p, q', a1, a2, s1, s2, e3⟩ := eqs e
    exact op_neD hu pins s σ0 H x y v u Q I rx ry ⟨p, q', a1, a2, s1, s2, by rw [e3]; exact q⟩
  | lt =>
    simp only [cmpD] at e
    split at e
    · cases e
      obtain ⟨h1, h2⟩ := bothI rfl rfl
      exact op_lt pins s σ0 H x y v u Q I rx ry ⟨_, _, h1, h2, q⟩
    · cases e
  | le =>
    simp only [cmpD] at e
    split at e
    · cases e
      obtain ⟨h1, h2⟩ := bothI rfl rfl
      exact op_le pins s σ0 H x y v u Q I rx ry ⟨_, _, h1, h2, q⟩
    · cases e
  | gt =>
    simp only [cmpD] at e
    split at e
    · cases e
      obtain ⟨h1, h2⟩ := bothI rfl rfl
      exact op_gt pins s σ0 H x y v u Q I rx ry ⟨_, _, h1, h2, q⟩
    · cases e
  | ge =>
    simp only [cmpD] at e
    split at e
    · cases e
      obtain ⟨h1, h2⟩ := bothI rfl rfl
      exact op_ge pins s σ0 H x y v u Q I rx ry ⟨_, _, h1, h2, q⟩
    · cases e
  | is =>
    simp only [cmpD] at e
    split at e
    · cases r2
      refine op_isN pins s σ0 H x _ v u Q I rx ry ⟨rfl, ?_⟩
      cases r1 <;> first | (cases e; exact q) | (cases e; done)
    · split at e
      · cases e
        cases r1; cases r2
        exact op_isBl pins s σ0 H _ _ v u Q I rx ry ⟨_, _, rfl, rfl, q⟩
      · cases e
    · cases e
  | isnot =>
    simp only [cmpD] at e
    split at e
    · cases r2
      refine op_notN pins s σ0 H x _ v u Q I rx ry ⟨rfl, ?_⟩
      cases r1 <;> first | (cases e; exact q) | (cases e; done)
    · split at e
      · cases e
        cases r1; cases r2
        exact op_notBl pins s σ0 H _ _ v u Q I rx ry ⟨_, _, rfl, rfl, q⟩
      · cases e
    · cases e
  | isin => exact absurd rfl ho.1
  | notin => exact absurd rfl ho.2
end
end Ev

set_option Elab.async false
set_option linter.all false
set_option maxRecDepth 100000
set_option maxHeartbeats 1000000
namespace Ev
open PySem PySem.Spec PyProof.Rows L2

section
variable {X : Cx} {P : Pm} {N : List Str} {sc : Scope} {W : XK} {G : List Fn} {gn bn : List Str} {k : Nat} {T : ClsT}
theorem toD_bind {σ α : Type} {r : Res σ α} {f : α → σ → Res Env SV} : toD (r.bind f) = r.bind fun a e => toD (f a e) := by
  unfold toD
  rw [Res.bind_assoc]
@[simp] theorem toD_ok_v {d : D} {e : Env} : toD (.ok (.v d) e) = .ok d e := rfl
@[simp] theorem toD_bad : toD (.bad) = .bad := rfl

theorem snd_cmp (C : Cxt X P N sc W G gn bn k T) {op : Cop} (ho : op ≠ .isin ∧ op ≠ .notin) {a b : Expr} {pos : Pos} {xa xb : Ex} (ha : PE X a (tE P W G xa)) (hb : PE X b (tE P W G xb)) : PE X (.Compare a [op.py] [b] pos) (tE P W G (.cmp op xa xb)) := by
  have hm : behindInMarks op.py b = false := nobehind b (by cases op <;> simp_all [Cop.py]) (by cases op <;> simp_all [Cop.py])
  refine PE_imp (pe_cmpR (op_cmp C op ho) ha hb hm) fun σ H Q ⟨w, en, R, p⟩ => ⟨w, en, R, PostG.useD (R := ev G xa en) p |>.imp fun w1 H1 e1 sv le R1 q v T => ?_⟩
  obtain ⟨w2, d1, le2, R2, r1, q⟩ := q v T
  refine ⟨w2, e1, R2, PostG.useD (R := ev G xb e1) q |>.imp fun w3 H3 e3 sv3 le3 R3 q3 v3 T3 => ?_⟩
  obtain ⟨w4, d2, le4, R4, r2, q4⟩ := q3 v3 T3
  obtain ⟨sv, e, q4⟩ := q4.opt
  simp only [Option.map_eq_some_iff] at e
  obtain ⟨c, e, rfl⟩ := e
  exact ⟨σ, w4, e3, d1, d2, c, R4, r1.up (le3.trans le4), r2, e, q4 w4 H3 (.refl _) R4 _ (.v (.bl c))⟩
theorem snd_cmpT (C : Cxt X P N sc W G gn bn k T) {op : Cop} (ho : op ≠ .isin ∧ op ≠ .notin) {a b : Expr} {pos : Pos} {xa xb : Ex} (ha : PE X a (tE P W G xa)) (hb : PE X b (tE P W G xb)) : PT X (.Compare a [op.py] [b] pos) (tT P W G (.cmp op xa xb)) := by
  have hm : behindInMarks op.py b = false := nobehind b (by cases op <;> simp_all [Cop.py]) (by cases op <;> simp_all [Cop.py])
  refine PT_imp (pt_cmpR (op_cmp C op ho) ha hb hm) fun σ H Q ⟨w, en, R, p⟩ => ⟨w, en, R, ?_⟩
  have p : PostG P W σ w (toD ((toD (ev G xa en)).bind fun x e1 => (toD (ev G xb e1)).bind fun y e2 => .opt ((cmpD op x y).map fun b => .v (.bl b)) e2)) _ := p
  rw [toD_bind] at p
  refine PostG.useD (R := ev G xa en) p |>.imp fun w1 H1 e1 sv le R1 q v T => ?_
  obtain ⟨w2, d1, le2, R2, r1, q⟩ := q v T
  rw [toD_bind] at q
  refine ⟨w2, e1, R2, PostG.useD (R := ev G xb e1) q |>.imp fun w3 H3 e3 sv3 le3 R3 q3 v3 T3 => ?_⟩
  obtain ⟨w4, d2, le4, R4, r2, q4⟩ := q3 v3 T3
  cases ec : cmpD op d1 d2 with
  | none => rw [ec] at q4; exact q4.elim
  | some c =>
    rw [ec] at q4
    obtain ⟨b', eb, q4⟩ := q4.to rfl R4
    cases eb
    exact ⟨σ, w4, e3, d1, d2, c, R4, r1.up (le3.trans le4), r2, ec, c, rfl, q4⟩
theorem chain_core (C : Cxt X P N sc W G gn bn k T) {o1 o2 : Cop} {xa xb xc : Ex} {σ : L2.St} {H : Hp} {w : Wd} {en : Env} {Q : VK} (R : Rep P w H σ en)
    (p : PostG P W σ w (toD (ev G (.chain o1 o2 xa xb xc) en)) fun _ H' _ d => ∃ b, d = .bl b ∧ Q (.bl b) H') : tChain (rCmp P o1) (rCmp P o2) (tE P W G xa) (tE P W G xb) (tE P W G xc) σ H Q := by
  have p : PostG P W σ w (toD ((toD (ev G xa en)).bind fun x e1 => (toD (ev G xb e1)).bind fun y e2 => (Res.opt (cmpD o1 x y) e2).bind fun k e2 =>
    if k = true then (toD (ev G xc e2)).bind fun z e3 => .opt ((cmpD o2 y z).map fun b => .v (.bl b)) e3 else .ok (.v (.bl false)) e2)) _ := p
  rw [toD_bind] at p
  refine ⟨w, en, R, PostG.useD (R := ev G xa en) p |>.imp fun w1 H1 e1 sv le R1 q v T => ?_⟩
  obtain ⟨w2, d1, le2, R2, r1, q⟩ := q v T
  rw [toD_bind] at q
  refine ⟨w2, e1, R2, PostG.useD (R := ev G xb e1) q |>.imp fun w3 H3 e3 sv3 le3 R3 q3 v3 T3 => ?_⟩
  obtain ⟨w4, d2, le4, R4, r2, q4⟩ := q3 v3 T3
  cases ec : cmpD o1 d1 d2 with
  | none => rw [ec] at q4; exact q4.elim
  | some c =>
    rw [ec] at q4
    refine ⟨σ, w4, e3, d1, d2, c, R4, r1.up (le3.trans le4), r2, ec, c, rfl, ?_⟩
    cases c with
    | false =>
      obtain ⟨b, eb, q4⟩ := q4.to rfl R4
      cases eb
      exact q4
    | true =>
      have q4 : PostG P W σ w4 (toD ((toD (ev G xc e3)).bind fun z e3 => .opt ((cmpD o2 d2 z).map fun b => .v (.bl b)) e3)) _ := q4
      rw [toD_bind] at q4
      refine ⟨w4, e3, R4, PostG.useD (R := ev G xc e3) q4 |>.imp fun w5 H5 e5 sv5 le5 R5 q5 v5 T5 => ?_⟩
      obtain ⟨w6, d3, le6, R6, r3, q6⟩ := q5 v5 T5
      cases ec2 : cmpD o2 d2 d3 with
      | none => rw [ec2] at q6; exact q6.elim
      | some c2 =>
        rw [ec2] at q6
        obtain ⟨b, eb, q6⟩ := q6.to rfl R6
        cases eb
        exact ⟨σ, w6, e5, d2, d3, c2, R6, r2.up (le5.trans le6), r3, ec2, q6⟩
theorem ev_chain_bl {o1 o2 : Cop} {xa xb xc : Ex} {en : Env} {w : Wd} {σ : L2.St} {K : Wd → Hp → Env → SV → Prop} (p : PostG P W σ w (ev G (.chain o1 o2 xa xb xc) en) K) : PostG P W σ w (toD (ev G (.chain o1 o2 xa xb xc) en)) fun w' H' en' d => ∃ b, d = .bl b ∧ K w' H' en' (.v (.bl b)) := by
  have key : ∀ r : Res Env SV, r = ev G (.chain o1 o2 xa xb xc) en → (∀ sv e, r = .ok sv e → ∃ b, sv = .v (.bl b)) → PostG P W σ w (toD (ev G (.chain o1 o2 xa xb xc) en)) fun w' H' en' d => ∃ b, d = .bl b ∧ K w' H' en' (.v (.bl b)) := fun r er h => by
    rw [← er] at p ⊢
    cases r with
    | ok sv e =>
      obtain ⟨b, rfl⟩ := h sv e rfl
      exact fun w' H' le R => ⟨b, rfl, p w' H' le R⟩
    | err x S => exact p
    | bad => exact p
  refine key _ rfl fun sv e h => ?_
  unfold ev at h
  cases e1 : toD (ev G xa en) with
  | err x S => rw [e1] at h; cases h
  | bad => rw [e1] at h; cases h
  | ok d1 en1 =>
    rw [e1, Res.bind_ok] at h
    cases e2 : toD (ev G xb en1) with
    | err x S => rw [e2] at h; cases h
    | bad => rw [e2] at h; cases h
    | ok d2 en2 =>
      rw [e2, Res.bind_ok] at h
      cases e3 : cmpD o1 d1 d2 with
      | none => rw [e3] at h; cases h
      | some c =>
        rw [e3, Res.opt_some, Res.bind_ok] at h
        cases c with
        | false => cases h; exact ⟨_, rfl⟩
        | true =>
          rw [if_pos rfl] at h
          cases e4 : toD (ev G xc en2) with
          | err x S => rw [e4] at h; cases h
          | bad => rw [e4] at h; cases h
          | ok d3 en3 =>
            rw [e4, Res.bind_ok] at h
            cases e5 : cmpD o2 d2 d3 with
            | none => rw [e5] at h; cases h
            | some c2 => rw [e5] at h; cases h; exact ⟨_, rfl⟩
theorem snd_chain (C : Cxt X P N sc W G gn bn k T) {o1 o2 : Cop} (h1 : o1 ≠ .isin ∧ o1 ≠ .notin) (h2 : o2 ≠ .isin ∧ o2 ≠ .notin) {a b c : Expr} {pos : Pos} {xa xb xc : Ex} (ha : PE X a (tE P W G xa)) (hb : PE X b (tE P W G xb)) (hc : PE X c (tE P W G xc))
    (hl : lastMarks [o1.py, o2.py] [b, c] = false) : PE X (.Compare a [o1.py, o2.py] [b, c] pos) (tE P W G (.chain o1 o2 xa xb xc)) := by
  refine PE_imp (pe_chain (op_cmp C o1 h1) (op_cmp C o2 h2) ha hb hc hl) fun σ H Q ⟨w, en, R, p⟩ => chain_core C R ((ev_chain_bl p).imp fun w' H' en' d le R' ⟨b, eb, q⟩ => ⟨b, eb, q _ (.v (.bl b))⟩)
theorem snd_chainT (C : Cxt X P N sc W G gn bn k T) {o1 o2 : Cop} (h1 : o1 ≠ .isin ∧ o1 ≠ .notin) (h2 : o2 ≠ .isin ∧ o2 ≠ .notin) {a b c : Expr} {pos : Pos} {xa xb xc : Ex} (ha : PE X a (tE P W G xa)) (hb : PE X b (tE P W G xb)) (hc : PE X c (tE P W G xc))
    (hl : lastMarks [o1.py, o2.py] [b, c] = false) : PT X (.Compare a [o1.py, o2.py] [b, c] pos) (tT P W G (.chain o1 o2 xa xb xc)) := by
  refine PT_imp (pt_chain (op_cmp C o1 h1) (op_cmp C o2 h2) ha hb hc hl) fun σ H Q ⟨w, en, R, p⟩ => chain_core C R (p.imp fun w' H' en' d le R' ⟨b, eb, q⟩ => ⟨b, eb, b, rfl, q⟩)
/-- a test whose value is a bool -/
theorem snd_val {e : Expr} {x : Ex} (h : PE X e (tE P W G x)) (he : ∀ whole, isTrue e X.env whole = (do let v ← whole; standAt e.pos; holding [v] (truthy v))) : PT X e (tT P W G x) := by
  refine PT_imp (pt_val (snd_D h) he) fun σ H Q ⟨w, en, R, p⟩ => ⟨w, en, R, p.imp fun w1 H1 e1 d le R1 q v r => ?_⟩
  obtain ⟨b, rfl, q⟩ := q
  cases r
  exact ⟨b, rfl, q⟩
theorem snd_notT {a : Expr} {pos : Pos} {xa : Ex} (ha : PT X a (tT P W G xa)) : PT X (.UnaryOp .Not a pos) (tT P W G (.not xa)) := by
  refine PT_imp (pt_not ha) fun σ H Q ⟨w, en, R, p⟩ => ⟨w, en, R, ?_⟩
  have p : PostG P W σ w (toD ((toD (ev G xa en)).bind fun x e1 => match x with
    | .bl b => .ok (.v (.bl (!b))) e1
    | _ => .bad)) _ := p
  rw [toD_bind] at p
  refine p.bind.imp fun w1 H1 e1 d le R1 q => ?_
  cases d with
  | bl b =>
    obtain ⟨b', eb, q⟩ := q.to rfl R1
    cases eb
    exact ⟨b, rfl, q⟩
  | _ => exact q.elim
theorem PW_imp {X : Cx} {e : Expr} {t t' : TT} (h : PW X e t) (i : ∀ σ H Q, t' σ H Q → t σ H Q) : PW X e t' := ⟨fun wh pins s σ H Q I q => h.run wh pins s σ H Q I (i σ H Q q)⟩
theorem snd_wand {a b : Expr} {rest : List Expr} {pos : Pos} {xa xb : Ex} (ha : PT X a (tT P W G xa)) (hb : PW X (.BoolOp .And (b :: rest) pos) (tT P W G xb)) : PW X (.BoolOp .And (a :: b :: rest) pos) (tT P W G (.and xa xb)) := by
  refine PW_imp (pw_and ha hb) fun σ H Q ⟨w, en, R, p⟩ => ⟨w, en, R, ?_⟩
  have p : PostG P W σ w (toD ((toD (ev G xa en)).bind fun x e1 => match x with
    | .bl true => ev G xb e1
    | .bl false => .ok (.v (.bl false)) e1
    | _ => .bad)) _ := p
  rw [toD_bind] at p
  refine p.bind.imp fun w1 H1 e1 d le R1 q => ?_
  cases d with
  | bl b =>
    refine ⟨b, rfl, ?_⟩
    cases b with
    | true => exact ⟨w1, e1, R1, q⟩
    | false =>
      obtain ⟨b', eb, q⟩ := q.to rfl R1
      cases eb
      exact q
  | _ => exact q.elim
theorem snd_wor {a b : Expr} {rest : List Expr} {pos : Pos} {xa xb : Ex} (ha : PT X a (tT P W G xa)) (hb : PW X (.BoolOp .Or (b :: rest) pos) (tT P W G xb)) : PW X (.BoolOp .Or (a :: b :: rest) pos) (tT P W G (.or xa xb)) := by
  refine PW_imp (pw_or ha hb) fun σ H Q ⟨w, en, R, p⟩ => ⟨w, en, R, ?_⟩
  have p : PostG P W σ w (toD ((toD (ev G xa en)).bind fun x e1 => match x with
    | .bl true => .ok (.v (.bl true)) e1
    | .bl false => ev G xb e1
    | _ => .bad)) _ := p
  rw [toD_bind] at p
  refine p.bind.imp fun w1 H1 e1 d le R1 q => ?_
  cases d with
  | bl b =>
    refine ⟨b, rfl, ?_⟩
    cases b with
    | false => exact ⟨w1, e1, R1, q⟩
    | true =>
      obtain ⟨b', eb, q⟩ := q.to rfl R1
      cases eb
      exact q
  | _ => exact q.elim
theorem snd_w1 {a : Expr} {pos : Pos} {xa : Ex} (ha : PT X a (tT P W G xa)) (op : BoolOp) : PW X (.BoolOp op [a] pos) (tT P W G xa) := by
  cases op with
  | And => exact pw_and1 ha
  | Or => exact pw_or1 ha
theorem snd_and {a b : Expr} {rest : List Expr} {pos : Pos} {xa xb : Ex} (ha : PE X a (tE P W G xa)) (hb : PE X (.BoolOp .And (b :: rest) pos) (tE P W G xb)) : PE X (.BoolOp .And (a :: b :: rest) pos) (tE P W G (.and xa xb)) := by
  refine PE_imp (pe_and ha hb) fun σ H Q ⟨w, en, R, p⟩ => ⟨w, en, R, PostG.useD (R := ev G xa en) p |>.imp fun w1 H1 e1 sv le R1 q v T => ?_⟩
  obtain ⟨w2, d, le2, R2, r, q⟩ := q v T
  cases d with
  | bl b =>
    cases r
    refine ⟨b, rfl, ?_⟩
    cases b with
    | true => exact ⟨w2, e1, R2, q⟩
    | false => exact q.to rfl R2 _ (.v (.bl false))
  | _ => exact q.elim
theorem snd_or {a b : Expr} {rest : List Expr} {pos : Pos} {xa xb : Ex} (ha : PE X a (tE P W G xa)) (hb : PE X (.BoolOp .Or (b :: rest) pos) (tE P W G xb)) : PE X (.BoolOp .Or (a :: b :: rest) pos) (tE P W G (.or xa xb)) := by
  refine PE_imp (pe_or ha hb) fun σ H Q ⟨w, en, R, p⟩ => ⟨w, en, R, PostG.useD (R := ev G xa en) p |>.imp fun w1 H1 e1 sv le R1 q v T => ?_⟩
  obtain ⟨w2, d, le2, R2, r, q⟩ := q v T
  cases d with
  | bl b =>
    cases r
    refine ⟨b, rfl, ?_⟩
    cases b with
    | false => exact ⟨w2, e1, R2, q⟩
    | true => exact q.to rfl R2 _ (.v (.bl true))
  | _ => exact q.elim
theorem snd_ite {c a b : Expr} {pos : Pos} {xc xa xb : Ex} (hc : PT X c (tT P W G xc)) (ha : PE X a (tE P W G xa)) (hb : PE X b (tE P W G xb)) : PE X (.IfExp c a b pos) (tE P W G (.ite xc xa xb)) := by
  refine PE_imp (pe_ifExp hc ha hb) fun σ H Q ⟨w, en, R, p⟩ => ⟨w, en, R, PostG.bind (R := toD (ev G xc en)) p |>.imp fun w1 H1 e1 d le R1 q => ?_⟩
  cases d with
  | bl b =>
    refine ⟨b, rfl, ?_⟩
    cases b with
    | true => exact ⟨w1, e1, R1, q⟩
    | false => exact ⟨w1, e1, R1, q⟩
  | _ => exact q.elim
end
end Ev

set_option Elab.async false
set_option linter.all false
set_option maxRecDepth 100000
set_option maxHeartbeats 1000000
namespace Ev
open PySem PySem.Spec PyProof.Rows L2

section
variable {X : Cx} {E : XK} {k : Nat} {f C : Addr} {fd : FuncData} {ps : List Str} {sp : Sp} {pins : List (Addr × Obj)} {σ : L2.St} {H : Hp} {s : Shared} {Q : VK} {us : List Value} {vs : List V}
def RP (X : Cx) (pins : List (Addr × Obj)) (σ : L2.St) (Q : VK) (r : Result) (s' : Shared) : Prop := match r with
  | .ok (.ret v) => EP X pins σ Q v s'
  | .ok _ => False
  | .error e => X.xe e s'
/-- what comes back from a def's run -/
theorem ends_fn {s0 : Shared} {H0 : Hp} {Q' : VK} (hx : Passes (L2.CX X.prog X.w) X E) (I : Inv X pins σ H0 s0) {r : Result} {s' : Shared} (hq : CR (L2.CX X.prog X.w) X.stack X.prog X.w H0 s0 Q' E r s') : RP X pins σ Q' r s' := by
  cases r with
  | error e => exact hx pins σ H0 s0 e s' I hq
  | ok fl =>
    cases fl with
    | ret u => exact I.after hq
    | _ => exact hq.elim
theorem run_g (F : FnG X.prog X.w X.K X.mg X.base k f fd ps sp) (hg : X.A.guards = some []) (hr : Room k X.A) (hb : Binds X.K fd ps []) (hx : Passes (L2.CX X.prog X.w) X E)
    (I : Inv X pins σ H s) (r : Vals vs us) (h : sp vs H Q E) : wpAny (model X.prog X.w) X.A (call (.ref f) us) (EP X pins σ Q) X.xe s := by
  have hl : (us ++ []).length = ps.length := by rw [List.append_nil, ← r.length]; exact F.arity _ _ _ _ h
  have b := hb s us I.kIn hl
  rw [List.append_nil] at b
  refine wpAny_call (codeAny_mono (F.runs hg hr I.env0 b r h) fun r s' hq => ?_)
  have z := ends_fn hx I hq
  cases r with
  | error e => exact z
  | ok fl => cases fl <;> exact z
theorem pe_callg {x : Str} {p pos : Pos} {e : Expr} {es : List Expr} {t : TA} (F : FnG X.prog X.w X.K X.mg X.base k f fd ps sp) (hgd : X.A.guards = some []) (hr : Room k X.A) (hg : Gl X x) (hm : X.mg x = some (.ref f)) (hk : PySem.W.keepIn X.K (.ref f) = true)
    (hb : Binds X.K fd ps []) (hx : Passes (L2.CX X.prog X.w) X E) (ha : PA X (e :: es) t) (hdb : (x == ("__debug__" : Str)) = false) (he : starEach (e :: es) X.env = (false, eval e X.env) :: starEach es X.env)
    (hpl : (backTo pos (starEach es X.env)).any (·.1) = false) : PE X (.Call (.Name x p) (e :: es) [] pos) (fun σ H Q => t σ H fun vs H1 => sp vs H1 Q E) :=
  ⟨fun pins s σ H Q I h => wpAny_Call_Name_kw (ld_glob I hg hm (PySem.W.callWith_K (h₀ := X.base) I.ok.mod.kin hk (thn (ha.run pos pins s σ H _ I h) fun us s1 ⟨vs, H1, I1, r, q⟩ => ⟨I1.kIn, run_g F hgd hr hb hx I1 r q⟩) he hpl) hdb)⟩
theorem pe_callg0 {x : Str} {p pos : Pos} (F : FnG X.prog X.w X.K X.mg X.base k f fd ps sp) (hgd : X.A.guards = some []) (hr : Room k X.A) (hg : Gl X x) (hm : X.mg x = some (.ref f)) (hk : PySem.W.keepIn X.K (.ref f) = true)
    (hb : Binds X.K fd ps []) (hx : Passes (L2.CX X.prog X.w) X E) (hdb : (x == ("__debug__" : Str)) = false) : PE X (.Call (.Name x p) [] [] pos) (fun σ H Q => sp [] H Q E) :=
  ⟨fun pins s σ H Q I h => wpAny_Call_Name_kw (ld_glob I hg hm (PySem.W.callWith_K0 I.kIn hk (run_g (us := []) F hgd hr hb hx I .nil h)) hdb)⟩

/-! ### new instances -/
theorem under_grd {A : Around} {C : Addr} {us : List Value} {kw : List (Str × Value)} (h : A.guards = some []) : (A.under (.builtin "type.__call__" ⟨.ref C :: us, kw⟩)).guards = some [] := by
  have e : (Code.builtin "type.__call__" ⟨.ref C :: us, kw⟩).guards = [] := by
    unfold Code.guards
    have : (Code.builtin "type.__call__" ⟨.ref C :: us, kw⟩).isGuard = false := by first | rfl | (unfold Code.isGuard; rfl) | decide
    rw [this]; rfl
  unfold Around.under
  simp only [e, h]
  rfl
/-- a new instance stands, its __init__ runs -/
theorem run_mk (M : Mk X.K C f) (F : FnG X.prog X.w X.K X.mg X.base k f fd ps sp) (hg : X.A.guards = some []) (hr : Room (k + 1) X.A) (hx : Passes (L2.CX X.prog X.w) X E) {ks : List Str} {ws : List Value} {gs : List Value} {gV : List V}
    (hb : ∀ (s : Shared) (x : Value), X.K.In s.heap → BindsTo s fd ⟨x :: us, ks.zip ws⟩ (ps.zip (x :: gs))) (I : Inv X pins σ H s) (r : Vals gV gs)
    (h : ∀ x dx, H x = none → H dx = none → dx ≠ x → sp (.ref x :: gV) (upd (upd H dx (.own x)) x (.ins C dx [])) (fun v H2 => v = .non ∧ Q (.ref x) H2) E) :
    wpAny (model X.prog X.w) X.A (call (.ref C) us (ks.zip ws)) (EP X pins σ Q) X.xe s := by
  have hq := h (s.heap.objs.size + 1) s.heap.objs.size (I.hok.fresh (Nat.le_succ _)) (I.hok.fresh (Nat.le_refl _)) (Nat.ne_of_lt (Nat.lt_succ_self _))
  have I2 := Inv.made (C := C) I
  have rv : Vals (V.ref (s.heap.objs.size + 1) :: gV) (Value.ref (s.heap.objs.size + 1) :: gs) := .cons rfl r
  refine wpAny_call (make_map (f := f) I.kIn M.makes M.init (beq_iff_eq.mp M.fn) (codeAny_mono (F.runs (under_grd hg) (hr.make C us (ks.zip ws)) (I2.env0.make C us (ks.zip ws)) (hb _ _ I2.kIn) rv hq) fun r s' hq' => ?_))
  have z := ends_fn hx I2 hq'
  cases r with
  | error e => exact z
  | ok fl =>
    cases fl with
    | ret u =>
      obtain ⟨v, H', I3, rv, ev, q3⟩ := z
      subst ev
      exact ⟨rv, V.ref (s.heap.objs.size + 1), H', I3, rfl, q3⟩
    | _ => exact z.elim
/-- .. a class without __init__ -/
theorem run_mk0 (hm : PySem.W.makesIn X.K C = true) (hi : PySem.W.findIn X.K (.ref C) "__init__" = some (some (.builtin "object.__init__"))) (I : Inv X pins σ H s)
    (h : ∀ x dx, H x = none → H dx = none → dx ≠ x → Q (.ref x) (upd (upd H dx (.own x)) x (.ins C dx []))) : wpAny (model X.prog X.w) X.A (call (.ref C) []) (EP X pins σ Q) X.xe s := by
  have hq := h (s.heap.objs.size + 1) s.heap.objs.size (I.hok.fresh (Nat.le_succ _)) (I.hok.fresh (Nat.le_refl _)) (Nat.ne_of_lt (Nat.lt_succ_self _))
  have I2 := Inv.made (C := C) I
  have kp : ∀ b o, s.heap.get? b = some o → ((s.heap.push PySem.W.emptyDict).push (PySem.W.instObj C s.heap.objs.size)).get? b = some o := fun b o e => Heap.get?_push_of_some _ (Heap.get?_push_of_some _ e)
  refine wpAny_call (make_map0 I.kIn hm hi (fun self => PySem.W.Looks.of_pure (PySem.W.oi_bind self)) ?_)
  have at_ : ((s.heap.push PySem.W.emptyDict).push (PySem.W.instObj C s.heap.objs.size)).get? (s.heap.objs.size + 1) = some (PySem.W.instObj C s.heap.objs.size) := by
    have := Heap.get?_push_size (s.heap.push PySem.W.emptyDict) (o := PySem.W.instObj C s.heap.objs.size) rfl
    rwa [Heap.size_push] at this
  have t1 : PySem.W.Looks (model X.prog X.w) ((s.heap.push PySem.W.emptyDict).push (PySem.W.instObj C s.heap.objs.size)) (typeOf (.ref (s.heap.objs.size + 1))) (.ref C) := (PySem.W.Looks.ld at_).andThen .now
  have t2 : PySem.W.Looks (model X.prog X.w) ((s.heap.push PySem.W.emptyDict).push (PySem.W.instObj C s.heap.objs.size)) (isInstance (.ref (s.heap.objs.size + 1)) (.type "object")) true := t1.andThen ((PySem.W.makes_of (M := model X.prog X.w) I.kIn hm).top.keeps kp)
  refine codeAny_call_builtin PySem.W.oi_plain PySem.W.entry_oi (@PySem.W.check_slot (model X.prog X.w) _ _ _ "object.__init__" "object" "__init__" (.ref (s.heap.objs.size + 1)) [] [] _ PySem.W.oi_kind PySem.W.oi_split t2 (PySem.W.oi_args _) ?_)
  rw [PySem.W.oi_run]
  have z : EP X pins σ Q (.ref (s.heap.objs.size + 1)) { s with heap := (s.heap.push PySem.W.emptyDict).push (PySem.W.instObj C s.heap.objs.size) } := ⟨V.ref _, _, I2, rfl, hq⟩
  exact wpAny_pure (And.intro rfl z)
end
end Ev

set_option Elab.async false
set_option linter.all false
set_option maxRecDepth 100000
set_option maxHeartbeats 1000000
namespace Ev
open PySem PySem.Spec PyProof.Rows L2

theorem Mem.enter {P : Pm} {w : Wd} {H : Hp} {S : Store} (m : Mem P w H S) : Mem ⟨P.L, H, w.F, w.I⟩ w H S :=
  ⟨m.sub, Sb.refl _, fun _ _ h _ => h, fun _ h => h, fun _ h => .inl h, m.fr, fun _ _ h => .inl h, m.nd, m.len, m.cell⟩
section
variable {X : Cx} {P : Pm} {N : List Str} {sc : Scope} {W : XK} {G : List Fn} {gn bn : List Str} {k : Nat} {T : ClsT} {σ : L2.St}
theorem Cxt.passes (C : Cxt X P N sc W G gn bn k T) : Passes (L2.CX X.prog X.w) X W := passes_call C.tk fun _ _ _ _ h => h
/-- behind the arguments: the callee -/
theorem call_at {f : Fn} {w : Wd} {H : Hp} {en : Env} {vs : List V} {ds : List D} {Q : VK} (R : Rep P w H σ en) (r : DRsw P.L w vs ds)
    (p : PostG P W σ w ((f ds en.s).bind fun d s => .ok (.v d) ⟨en.r, s⟩) fun w' H' en' sv => ∀ v, TR P w' H' σ en' v sv → Q v H') : spOf P.L f vs H Q W := by
  refine ⟨w, ds, en.s, R.mem.enter, r, ?_⟩
  cases e : f ds en.s with
  | ok d S' =>
    rw [e] at p
    exact fun v w' H' le m' rv => p w' H' le (R.call le m' rfl rfl rfl (fun _ _ h => h) fun _ h => h) v (.v rv)
  | err x S' =>
    rw [e] at p
    exact fun cls d w' H' le m' rx => p cls d w' H' le (R.mem.back m' rfl rfl rfl (fun _ _ h => h) fun _ h => h) rx
  | bad => rw [e] at p; exact p
theorem snd_call (C : Cxt X P N sc W G gn bn k T) {g : Nat} {f : Fn} {x : Str} {p pos : Pos} {e : Expr} {es : List Expr} {as : Ex} (hG : G[g]? = some f) (hn : gn[g]? = some x) (hx : x ≠ "") (hg : Gl X x) (hdb : (x == ("__debug__" : Str)) = false)
    (ha : PA X (e :: es) (tA P W G as)) (he : starEach (e :: es) X.env = (false, eval e X.env) :: starEach es X.env) (hpl : (backTo pos (starEach es X.env)).any (·.1) = false) : PE X (.Call (.Name x p) (e :: es) [] pos) (tE P W G (.call g as)) := by
  obtain ⟨a, fd, ps, hm, hga, hk, hb, F⟩ := (C.fns g f x hG hn hx).there
  refine PE_imp (pe_callg (E := W) F C.grd C.room hg hm hk hb C.passes ha hdb he hpl) fun σ H Q ⟨w, en, R, p⟩ => ⟨w, en, R, (PostG.bind (R := toA (ev G as en)) p).imp fun w1 H1 e1 ds le R1 q vs rs => ?_⟩
  rw [hG] at q
  exact call_at R1 rs q
theorem snd_call0 (C : Cxt X P N sc W G gn bn k T) {g : Nat} {f : Fn} {x : Str} {p pos : Pos} (hG : G[g]? = some f) (hn : gn[g]? = some x) (hx : x ≠ "") (hg : Gl X x) (hdb : (x == ("__debug__" : Str)) = false) : PE X (.Call (.Name x p) [] [] pos) (tE P W G (.call g .nil)) := by
  obtain ⟨a, fd, ps, hm, hga, hk, hb, F⟩ := (C.fns g f x hG hn hx).there
  refine PE_imp (pe_callg0 (E := W) F C.grd C.room hg hm hk hb C.passes hdb) fun σ H Q ⟨w, en, R, p⟩ => ?_
  have q := (PostG.bind (R := toA (ev G .nil en)) p).to (a := []) rfl R
  rw [hG] at q
  exact call_at R .nil q

/-! ### new instances -/
theorem pickL_vals {vs : List V} {us : List Value} (r : Vals vs us) : ∀ pm : List Nat, Vals (pickL pm vs) (pickL pm us)
  | [] => .nil
  | i :: pm => by
    have ih := pickL_vals r pm
    unfold pickL at ih ⊢
    cases e : vs[i]? with
    | none =>
      have e2 := r.none_of e
      rw [List.filterMap_cons_none e, List.filterMap_cons_none e2]
      exact ih
    | some v =>
      obtain ⟨u, e2, rv⟩ := r.get e
      rw [List.filterMap_cons_some e, List.filterMap_cons_some e2]
      exact .cons rv ih
theorem mapM_cons_some {α β : Type} {f : α → Option β} {x : α} {xs : List α} {ys : List β} (h : (x :: xs).mapM f = some ys) : ∃ y zs, f x = some y ∧ xs.mapM f = some zs ∧ ys = y :: zs := by
  rw [List.mapM_cons] at h
  cases e1 : f x with
  | none => rw [e1] at h; cases h
  | some y =>
    rw [e1] at h
    cases e2 : xs.mapM f with
    | none =>
      simp [e2] at h
    | some zs =>
      simp [e2] at h
      exact ⟨y, zs, rfl, rfl, h.symm⟩
theorem pickL_drs {L : Lk} {w : Wd} {vs : List V} {ds : List D} (r : DRsw L w vs ds) : ∀ (pm : List Nat) (us : List D), pm.mapM (fun i => ds[i]?) = some us → DRsw L w (pickL pm vs) us
  | [], us, h => by
    have : us = [] := by simpa using h.symm
    subst this
    exact .nil
  | i :: pm, us, h => by
    obtain ⟨y, zs, e1, e2, rfl⟩ := mapM_cons_some h
    have ih := pickL_drs r pm zs e2
    obtain ⟨v, ev, rv⟩ := DRs.get r e1
    unfold pickL at ih ⊢
    rw [List.filterMap_cons_some ev]
    exact .cons rv ih
/-- a new instance, in the heap -/
theorem Rep.made {w : Wd} {H : Hp} {en : Env} (R : Rep P w H σ en) {x dx C : Addr} (hx : H x = none) (hd : H dx = none) (ne : dx ≠ x) : Rep P w (upd (upd H dx (.own x)) x (.ins C dx [])) σ en := by
  obtain ⟨a1, a2, a3⟩ := R.mem.no0 hd
  obtain ⟨b1, b2, b3⟩ := R.mem.no0 hx
  have m := (R.mem.write (o := .own x) a1 a2 a3).write (o := .ins C dx []) b1 b2 b3
  have keep : ∀ i a, Owns en σ i a → upd (upd H dx (.own x)) x (.ins C dx []) a = H a := fun i a z => by
    rw [upd_ne (fun q => R.noOwn hx i (by rw [← q]; exact z)), upd_ne (fun q => R.noOwn hd i (by rw [← q]; exact z))]
  exact R.mono (.refl w) m keep fun i a z => ⟨(R.own i a z).1, (R.own i a z).2.2⟩
theorem Mem.hidden {w : Wd} {H : Hp} {S : Store} (m : Mem P w H S) {x : Addr} (h0 : P.H0 x = none) (nI : x ∉ w.I) : Mem ⟨P.L, hide H x, w.F, w.I⟩ w H S :=
  ⟨m.sub, Sb.refl _, fun a o e hi => by
    by_cases q : a = x
    · subst q; rw [show (⟨P.L, hide H a, w.F, w.I⟩ : Pm).H0 a = none from hide_same] at e; cases e
    · rw [show (⟨P.L, hide H x, w.F, w.I⟩ : Pm).H0 a = H a from hide_ne q] at e; exact e, fun _ h => h, fun _ h => .inl h, m.fr, fun _ _ h => .inl h, m.nd, m.len, m.cell⟩
theorem make_at {c : Nat} {f : Fn} {w : Wd} {H : Hp} {en : Env} {vs : List V} {ds : List D} {Q : VK} (R : Rep P w H σ en) (r : DRsw P.L w vs ds)
    (p : PostG P W σ w ((f ds en.s).bind fun d s => match d with
      | .obj c' ns vs => if c' = c then Res.ok (SV.oo c ns vs) ⟨en.r, s⟩ else .bad
      | _ => .bad) fun w' H' en' sv => ∀ v, TR P w' H' σ en' v sv → Q v H') {x dx : Addr} (hx : H x = none) (hd : H dx = none) (ne : dx ≠ x) :
    spI P.L c f (.ref x :: vs) (upd (upd H dx (.own x)) x (.ins (P.L.ca c) dx [])) (fun v H2 => v = .non ∧ Q (.ref x) H2) W := by
  have R1 := R.made (C := P.L.ca c) hx hd ne
  obtain ⟨b1, b2, b3⟩ := R.mem.no0 hx
  have h1 : ∀ a o, H a = some o → hide (upd (upd H dx (.own x)) x (.ins (P.L.ca c) dx [])) x a = some o := fun a o e => by
    rw [hide_ne (ne_of_none e hx), upd_ne (ne_of_none e hx), upd_ne (ne_of_none e hd)]; exact e
  have h2 : ∀ a, hide (upd (upd H dx (.own x)) x (.ins (P.L.ca c) dx [])) x a = none → H a = none := fun a e => by
    by_cases q : a = x
    · rw [q]; exact hx
    · rw [hide_ne q, upd_ne q] at e
      by_cases q2 : a = dx
      · rw [q2, upd_same] at e; cases e
      · rw [upd_ne q2] at e; exact e
  refine ⟨w, ds, en.s, x, dx, vs, rfl, upd_same, b2, b3, R1.mem.hidden b1 b2, r, ?_⟩
  cases e : f ds en.s with
  | ok d S' =>
    rw [e] at p
    cases d with
    | obj c' ns xs =>
      have p : PostG P W σ w (if c' = c then Res.ok (SV.oo c ns xs) ⟨en.r, S'⟩ else .bad) _ := p
      split at p
      · rename_i hc
        subst hc
        refine ⟨ns, xs, rfl, fun w' H' dx' fs le m' ex nx nf en' rx => ⟨rfl, ?_⟩⟩
        exact p w' H' le (R.call le m' rfl rfl rfl h1 h2) _ ⟨⟨x, dx', fs, rfl, ex, en', rx⟩, fun _ a ea => by
          cases ea
          exact ⟨nf, b1, nx, R.noOwn hx⟩⟩
      · exact p.elim
    | _ => exact (show False from p).elim
  | err y S' =>
    rw [e] at p
    exact fun cls d w' H' le m' rx => p cls d w' H' le (R.mem.back m' rfl rfl rfl h1 h2) rx
  | bad => rw [e] at p; exact (show False from p).elim
theorem snd_newx (C : Cxt X P N sc W G gn bn k T) {c g : Nat} {f : Fn} {x : Str} {p pos : Pos} {e : Expr} {es : List Expr} {as : Ex} (hG : G[g]? = some f) (hn : T.cn[c]? = some x) (hT : (c, g) ∈ T.mkf) (hg : Gl X x) (hdb : (x == ("__debug__" : Str)) = false)
    (ha : PA X (e :: es) (tA P W G as)) (he : starEach (e :: es) X.env = (false, eval e X.env) :: starEach es X.env) (hpl : (backTo pos (starEach es X.env)).any (·.1) = false) : PE X (.Call (.Name x p) (e :: es) [] pos) (tE P W G (.newx c (some g) [] as)) := by
  obtain ⟨a, fd, ps, M, hb, _, j, hj, F⟩ := C.ct.mkf c g f hT hG
  have hm := (C.ct.cls c x hn).2
  refine ⟨fun pins s σ H Q I ⟨w, en, R, p⟩ => ?_⟩
  refine wpAny_Call_Name_kw (ld_glob I hg hm (PySem.W.callWith_K (h₀ := X.base) I.ok.mod.kin M.kp (thn (ha.run pos pins s σ H (fun vs H1 => ∀ y dx, H1 y = none → H1 dx = none → dx ≠ y → spI P.L c f (.ref y :: vs) (upd (upd H1 dx (.own y)) y (.ins (P.L.ca c) dx [])) (fun v H2 => v = .non ∧ Q (.ref y) H2) W) I
    ⟨w, en, R, (PostG.bind (R := toA (ev G as en)) p).imp fun w1 H1 e1 ds le R1 q vs rs y dx hy hd ne => ?_⟩) fun us s1 ⟨vs, H1, I1, r, q⟩ => ⟨I1.kIn, ?_⟩) he hpl) hdb)
  · have q : PostG P W σ w1 (match G[g]? with
      | some f => (f ds e1.s).bind fun d s => (match d with
        | .obj c' ns vs => if c' = c then Res.ok (SV.oo c ns vs) ⟨e1.r, s⟩ else .bad
        | _ => .bad)
      | none => .bad) fun w' H' en' sv => ∀ v, TR P w' H' σ en' v sv → Q v H' := q
    rw [hG] at q
    exact make_at R1 rs q hy hd ne
  · have hl : ∀ y dx, H1 y = none → H1 dx = none → dx ≠ y → (vs.length + 1) = ps.length := fun y dx a b c => by
      have := F.arity _ _ _ _ (q y dx a b c)
      simpa using this
    have hl2 := hl _ _ (I1.hok.fresh (Nat.le_succ _)) (I1.hok.fresh (Nat.le_refl _)) (Nat.ne_of_lt (Nat.lt_succ_self s1.heap.objs.size))
    refine run_mk (us := us) (ks := []) (ws := []) M F C.grd (C.room.mono hj) C.passes (fun s y X => ?_) I1 r q
    have b := hb s (y :: us) X (by rw [List.append_nil, List.length_cons, ← r.length]; exact hl2)
    rw [List.append_nil] at b
    exact b
theorem snd_newx00 (C : Cxt X P N sc W G gn bn k T) {c g : Nat} {f : Fn} {x : Str} {p pos : Pos} (hG : G[g]? = some f) (hn : T.cn[c]? = some x) (hT : (c, g) ∈ T.mkf) (hg : Gl X x) (hdb : (x == ("__debug__" : Str)) = false) :
    PE X (.Call (.Name x p) [] [] pos) (tE P W G (.newx c (some g) [] .nil)) := by
  obtain ⟨a, fd, ps, M, hb, _, j, hj, F⟩ := C.ct.mkf c g f hT hG
  have hm := (C.ct.cls c x hn).2
  refine ⟨fun pins s σ H Q I ⟨w, en, R, p⟩ => ?_⟩
  have q := (PostG.bind (R := toA (ev G .nil en)) p).to (a := []) rfl R
  have q : PostG P W σ w (match G[g]? with
      | some f => (f [] en.s).bind fun d s => (match d with
        | .obj c' ns vs => if c' = c then Res.ok (SV.oo c ns vs) ⟨en.r, s⟩ else .bad
        | _ => .bad)
      | none => .bad) fun w' H' en' sv => ∀ v, TR P w' H' σ en' v sv → Q v H' := q
  rw [hG] at q
  have h : ∀ y dx, H y = none → H dx = none → dx ≠ y → spI P.L c f [.ref y] (upd (upd H dx (.own y)) y (.ins (P.L.ca c) dx [])) (fun v H2 => v = .non ∧ Q (.ref y) H2) W := fun y dx hy hd ne => make_at R .nil q hy hd ne
  have hl2 := F.arity _ _ _ _ (h _ _ (I.hok.fresh (Nat.le_succ _)) (I.hok.fresh (Nat.le_refl _)) (Nat.ne_of_lt (Nat.lt_succ_self s.heap.objs.size)))
  refine wpAny_Call_Name_kw (ld_glob I hg hm (PySem.W.callWith_K0 I.kIn M.kp ?_) hdb)
  refine run_mk (us := []) (ks := []) (ws := []) M F C.grd (C.room.mono hj) C.passes (fun s y X => ?_) I .nil h
  have b := hb s [y] X (by rw [List.append_nil]; exact hl2)
  rw [List.append_nil] at b
  exact b
/-- C(k = v, ..) -/
theorem snd_newxk (C : Cxt X P N sc W G gn bn k T) {c g : Nat} {f : Fn} {x : Str} {p pos : Pos} {kws : List Keyword} {ks : List Str} {pm : List Nat} {as : Ex} (hG : G[g]? = some f) (hn : T.cn[c]? = some x) (hT : (c, g) ∈ T.mkf) (hK : (c, ks, pm) ∈ T.kws) (hpm : pm ≠ []) (hg : Gl X x)
    (hdb : (x == ("__debug__" : Str)) = false) (hkw : PK X kws (tA P W G as)) (hln : ∀ en ds e1, toA (ev G as en) = .ok ds e1 → ds.length = ks.length) (hall : (backToKw pos (keywordEach kws X.env)).all (·.1.isSome) = true) (hks : (backToKw pos (keywordEach kws X.env)).filterMap (·.1) = ks)
    (hpl : ((backTo pos (starEach [] X.env)).any (·.1) || (backToKw pos (keywordEach kws X.env)).any (·.1.isNone)) = false) : PE X (.Call (.Name x p) [] kws pos) (tE P W G (.newx c (some g) pm as)) := by
  obtain ⟨a, fd, ps, M, _, hbk, j, hj, F⟩ := C.ct.mkf c g f hT hG
  have hb := hbk ks pm hK
  have hm := (C.ct.cls c x hn).2
  refine ⟨fun pins s σ H Q I ⟨w, en, R, p⟩ => ?_⟩
  refine wpAny_Call_Name_kw (ld_glob I hg hm ?_ hdb)
  refine PySem.W.callWith_KW0 (h₀ := X.base) I.ok.mod.kin M.kp hall ?_ hpl
  refine thn (hkw.run pos pins s σ H (fun zs H1 => zs.length = ks.length ∧ ∀ y dx, H1 y = none → H1 dx = none → dx ≠ y → spI P.L c f (.ref y :: pickL pm zs) (upd (upd H1 dx (.own y)) y (.ins (P.L.ca c) dx [])) (fun v H2 => v = .non ∧ Q (.ref y) H2) W) I
    ⟨w, en, R, ?_⟩) fun ws s2 ⟨zs, H2, I2, rz, l, q2⟩ => ⟨I2.kIn, ?_⟩
  · have p := PostG.bind (R := toA (ev G as en)) p
    cases e0 : toA (ev G as en) with
    | ok ds e1 =>
      rw [e0] at p
      intro w1 H1 le R1 vs rs
      have p := PostG.bind (p w1 H1 le R1)
      obtain ⟨us, eu, p⟩ := p.opt
      have eu : pm.mapM (fun i => ds[i]?) = some us := by
        cases pm with
        | nil => exact absurd rfl hpm
        | cons i pm => exact eu
      have q : PostG P W σ w1 (match G[g]? with
        | some f => (f us e1.s).bind fun d s => (match d with
          | .obj c' ns vs => if c' = c then Res.ok (SV.oo c ns vs) ⟨e1.r, s⟩ else .bad
          | _ => .bad)
        | none => .bad) fun w' H' en' sv => ∀ v, TR P w' H' σ en' v sv → Q v H' := p w1 H1 (.refl _) R1
      rw [hG] at q
      exact ⟨rs.length.trans (hln en ds e1 e0), fun y dx hy hd ne => make_at R1 (pickL_drs rs pm us eu) q hy hd ne⟩
    | err y S => rw [e0] at p; exact p
    | bad => rw [e0] at p; exact p
  · rw [hks]
    exact run_mk (us := []) (gs := pickL pm ws) M F C.grd (C.room.mono hj) C.passes (fun s y X => hb.to s [y] ws X rfl (rz.length.symm.trans l)) I2 (pickL_vals rz pm) q2
/-- a class without __init__ -/
theorem snd_newx0 (C : Cxt X P N sc W G gn bn k T) {c : Nat} {x : Str} {p pos : Pos} (hn : T.cn[c]? = some x) (hT : c ∈ T.mk0) (hg : Gl X x) (hdb : (x == ("__debug__" : Str)) = false) : PE X (.Call (.Name x p) [] [] pos) (tE P W G (.newx c none [] .nil)) := by
  obtain ⟨h1, h2, h3⟩ := C.ct.mk0 c hT
  have hm := (C.ct.cls c x hn).2
  refine ⟨fun pins s σ H Q I ⟨w, en, R, p⟩ => ?_⟩
  have p : PostG P W σ w (Res.ok (SV.oo c [] []) en) _ := p
  refine wpAny_Call_Name_kw (ld_glob I hg hm (PySem.W.callWith_K0 I.kIn h3 (run_mk0 h1 h2 I fun y dx hy hd ne => ?_)) hdb)
  obtain ⟨b1, b2, b3⟩ := R.mem.no0 hy
  exact p.at (R.made hy hd ne) _ ⟨⟨y, dx, [], rfl, upd_same, rfl, .nil⟩, fun _ a ea => by
    cases ea
    exact ⟨b3, b1, b2, R.noOwn hy⟩⟩
/-- as a cell -/
theorem snd_toc {e : Expr} {x : Ex} (h : PE X e (tE P W G x)) : PE X e (tE P W G (.toc x)) := by
  refine PE_imp h fun σ H Q ⟨w, en, R, p⟩ => ⟨w, en, R, (PostG.bind (R := ev G x en) p).imp fun w1 H1 e1 sv le R1 q v T => ?_⟩
  have key : ∀ (a : Addr) (o : HO) (c : Cell), v = .ref a → H1 a = some o → sv.own = true → (∀ w' : Wd, w1.le w' → CellR P.L w' H1 a c) →
      (∀ w' H', w1.le w' → Rep P w' H' σ ⟨e1.r, e1.s ++ [c]⟩ → ∀ v, TR P w' H' σ ⟨e1.r, e1.s ++ [c]⟩ v (.v (.ref e1.s.length)) → Q v H') → Q v H1 := fun a o c ev ea ho k q => by
    obtain ⟨nF, n0, nI, nO⟩ := T.own ho a ev
    have le : w1.le ⟨w1.F, w1.I ++ [a]⟩ := ⟨Sb.refl _, fun n b e => by
      show (w1.I ++ [a])[n]? = some b
      rw [List.getElem?_append_left (List.getElem?_eq_some_iff.mp e).1]; exact e⟩
    have m := R1.mem
    have m2 : Mem P ⟨w1.F, w1.I ++ [a]⟩ H1 (e1.s ++ [c]) := by
      refine ⟨m.sub, m.f0, m.ent, fun b hb => List.mem_append_left _ (m.i0 b hb), fun b hb => ?_, fun b hb => ?_, m.fz, ?_, ?_, fun n c' b e2 e3 => ?_⟩
      · rcases List.mem_append.mp hb with z | z
        · exact m.cn b z
        · rw [List.mem_singleton.mp z]; exact .inr n0
      · rcases List.mem_append.mp hb with z | z
        · exact m.fr b z
        · rw [List.mem_singleton.mp z]; exact nF
      · exact List.nodup_append.mpr ⟨m.nd, (by simp), fun b hb d hd z => nI (by rw [← List.mem_singleton.mp hd, ← z]; exact hb)⟩
      · show (w1.I ++ [a]).length = (e1.s ++ [c]).length
        rw [List.length_append, List.length_append, m.len]; rfl
      · have e3 : (w1.I ++ [a])[n]? = some b := e3
        by_cases hn : n < e1.s.length
        · rw [List.getElem?_append_left hn] at e2
          rw [List.getElem?_append_left (by rw [m.len]; exact hn)] at e3
          exact (m.cell n c' b e2 e3).up le
        · have hl : n < e1.s.length + 1 := by have := (List.getElem?_eq_some_iff.mp e2).1; rw [List.length_append] at this; exact this
          have hz : n = e1.s.length := by omega
          subst hz
          rw [List.getElem?_append_right (Nat.le_refl _), Nat.sub_self] at e2
          rw [List.getElem?_append_right (by rw [m.len]; exact Nat.le_refl _), m.len, Nat.sub_self] at e3
          cases e2; cases e3
          exact k _ le
    have R2 : Rep P ⟨w1.F, w1.I ++ [a]⟩ H1 σ ⟨e1.r, e1.s ++ [c]⟩ := R1.mono le m2 (fun _ _ _ => rfl) fun i b z => ⟨(R1.own i b z).1, fun hb => by
      rcases List.mem_append.mp hb with y | y
      · exact (R1.own i b z).2.2 y
      · exact nO i (by rw [← List.mem_singleton.mp y]; exact z)⟩
    refine q _ H1 le R2 v (.v ?_)
    subst ev
    refine .ref ?_
    show (w1.I ++ [a])[e1.s.length]? = some a
    rw [← m.len]; simp
  have Ti := T.is
  cases sv with
  | v d => exact q.elim
  | ol xs =>
    obtain ⟨a, vs, ev, ea, r⟩ := Ti
    exact key a _ (.lst xs) ev ea rfl (fun w' le => ⟨vs, ea, r.up le⟩) q
  | od ks ds =>
    obtain ⟨a, kvs, ev, ea, ek, r⟩ := Ti
    exact key a _ (.dct ks ds) ev ea rfl (fun w' le => ⟨kvs, ea, ek, r.up le⟩) q
  | oo c ns ds =>
    obtain ⟨a, dx, fs, ev, ea, en', r⟩ := Ti
    exact key a _ (.ins c ns ds) ev ea rfl (fun w' le => ⟨dx, fs, ea, en', r.up le⟩) q
end
end Ev

set_option Elab.async false
set_option linter.all false
set_option maxRecDepth 100000
set_option maxHeartbeats 1000000
namespace Ev
open PySem PySem.Spec PyProof.Rows L2

section
variable {X : Cx} {P : Pm} {N : List Str} {sc : Scope} {W : XK} {G : List Fn} {gn bn : List Str} {k : Nat} {T : ClsT} {σ : L2.St}
/-! ### x[i] -/
def rIxDc : R2 := fun x y H Q => ∃ a v, x = .ref a ∧ DGet H a y (some v) ∧ Q v H
theorem ix_dict (hu : X.A.units + 1 < cLine) : IxR X rIxDc := by
  rintro value slice pins s σ H x y v u Q I rx ry ⟨a, r, rfl, g, q⟩ hs
  obtain rfl : v = Value.ref a := rx
  have hT := dict_typeIs I g
  unfold subscriptTail
  refine wpAny_bind ?_
  rw [getitemInPython_of_ne hT.not_modules]
  refine wpAny_bind (wpAny_specialOf hT PySem.F.slot_dict_getitem.lookup ?_)
  have fin : wpAny (model X.prog X.w) X.A (subscripted slice false (.ref a) u) (fun r s₃ => wpAny (model X.prog X.w) X.A (letTemporaryGo value (.ref a) r >>= fun _ => pure r) (EP X pins σ Q) X.xe s₃) X.xe s := by
    rw [hs]
    exact wpAny_operating (d_getItem hu I g ry fun w' s3 I3 rw' => wpAny_bind (wpAny_letTemporaryGo (wpAny_pure ⟨r, H, I3, rw', q⟩)))
  first
    | exact wpAny_pure (wpAny_bind fin)
    | exact wpAny_bind (wpAny_pure (wpAny_bind fin))
    | exact wpAny_bind fin
theorem lookK_val {k : Str} {L : Lk} {w : Wd} : ∀ {kvs : List (Key × V)} {vs : List D} {d : D}, DRsw L w (kvs.map (·.2)) vs → lookK k (kvs.map fun p => kD p.1) vs = some d → ∃ v, valV kvs (.inr k) = some v ∧ DRw L w v d
  | [], vs, d, r, h => by cases r; cases h
  | (key, v0) :: kvs, vs, d, r, h => by
    cases r with
    | cons r0 rs =>
      cases key with
      | inl i =>
        have h : lookK k (kvs.map fun p => kD p.1) _ = some d := h
        obtain ⟨v, e, rv⟩ := lookK_val rs h
        exact ⟨v, by rw [valV_neg (fun z => by cases z)]; exact e, rv⟩
      | inr x =>
        have h : (if x = k then some _ else lookK k (kvs.map fun p => kD p.1) _) = some d := h
        split at h
        · rename_i hx
          cases h
          subst hx
          exact ⟨v0, valV_pos rfl, r0⟩
        · rename_i hx
          obtain ⟨v, e, rv⟩ := lookK_val rs h
          exact ⟨v, by rw [valV_neg (fun z => hx (Sum.inr.inj z))]; exact e, rv⟩
theorem atI_drs {L : Lk} {w : Wd} {vs : List V} {ds : List D} {i : Int} {d : D} (r : DRsw L w vs ds) (h : atI ds i = some d) : ∃ v, L2.atI vs i = some v ∧ DRw L w v d := by
  unfold atI L2.atI at h
  unfold L2.atI
  rw [r.length]
  cases e : ixN ds.length i with
  | none => rw [e] at h; cases h
  | some j =>
    rw [e] at h
    have h : ds[j]? = some d := h
    exact DRs.get r h
def rIxD (P : Pm) : R2 := fun x y H Q => ∃ σ w en d1 d2 d, Rep P w H σ en ∧ DRw P.L w x d1 ∧ DRw P.L w y d2 ∧ idxD d1 d2 en.s = some d ∧ ∀ v, DRw P.L w v d → Q v H
theorem ix_any (hK : X.K = P.L.K) (hu : X.A.units + 1 < cLine) : IxR X (rIxD P) := by
  rintro value slice pins s σ0 H x y v u Q I rx ry ⟨σ, w, en, d1, d2, d, R, r1, r2, e, q⟩ hs
  cases d1 with
  | tup xs =>
    cases d2 with
    | int i =>
      cases r1 with
      | tup h1 t1 =>
        cases r2
        obtain ⟨v', e', rv⟩ := atI_drs t1 e
        exact ix_tup value slice pins s σ0 H _ _ v u Q I rx ry ⟨_, _, _, v', rfl, rfl, by rw [hK]; exact R.mem.sub.t h1, e', q _ rv⟩ hs
    | _ => cases e
  | lst xs =>
    cases d2 with
    | int i =>
      cases r1 with
      | lst h1 t1 =>
        cases r2
        obtain ⟨v', e', rv⟩ := atI_drs t1 e
        exact ix_list value slice pins s σ0 H _ _ v u Q I rx ry ⟨_, _, _, v', rfl, rfl, by rw [hK]; exact R.mem.sub.l h1, e', q _ rv⟩ hs
    | _ => cases e
  | str z =>
    cases d2 with
    | int i =>
      cases r1; cases r2
      have e : (if z.length ≤ lim then (atI z.cps.toList i).map fun c => D.str ⟨#[c]⟩ else none) = some d := e
      split at e
      · rename_i hz
        simp only [Option.map_eq_some_iff] at e
        obtain ⟨c, e1, rfl⟩ := e
        exact ix_str value slice pins s σ0 H _ _ v u Q I rx ry ⟨_, _, c, rfl, rfl, by rw [← lim_eq]; exact hz, e1, q _ (.str _)⟩ hs
      · cases e
    | _ => cases e
  | ref n =>
    cases d2 with
    | str z =>
      cases r1 with
      | @ref _ a h1 =>
        cases r2
        have e : (match en.s[n]? with
          | some (.dct ks vs) => lookK z ks vs
          | _ => none) = some d := e
        split at e
        · rename_i ks vs ec
          obtain ⟨kvs, ea, rfl, rr⟩ := R.mem.cell n _ a ec h1
          obtain ⟨v', e', rv⟩ := lookK_val rr e
          exact ix_dict hu value slice pins s σ0 H _ _ v u Q I rx ry ⟨_, v', rfl, .inl ⟨kvs, .inr z, .inl ea, rfl, e'.symm⟩, q _ rv⟩ hs
        · cases e
    | _ => cases e
  | _ => cases e
theorem snd_idx (C : Cxt X P N sc W G gn bn k T) {a b : Expr} {pos : Pos} {xa xb : Ex} (ha : PE X a (tE P W G xa)) (hb : PE X b (tE P W G xb)) (hs : PlainIx b) : PE X (.Subscript a b pos) (tE P W G (.idx xa xb)) := by
  refine PE_imp (pe_ix (ix_any C.hK (by have := C.room.units; omega)) ha hb hs) fun σ H Q ⟨w, en, R, p⟩ => ⟨w, en, R, PostG.useD (R := ev G xa en) p |>.imp fun w1 H1 e1 sv le R1 q v T => ?_⟩
  obtain ⟨w2, d1, le2, R2, r1, q⟩ := q v T
  refine ⟨w2, e1, R2, PostG.useD (R := ev G xb e1) q |>.imp fun w3 H3 e3 sv3 le3 R3 q3 v3 T3 => ?_⟩
  obtain ⟨w4, d2, le4, R4, r2, q4⟩ := q3 v3 T3
  obtain ⟨sv, e, q4⟩ := q4.opt
  simp only [Option.map_eq_some_iff] at e
  obtain ⟨d, e, rfl⟩ := e
  exact ⟨σ, w4, e3, d1, d2, d, R4, r1.up (le3.trans le4), r2, e, fun v rv => q4 w4 H3 (.refl _) R4 v (.v rv)⟩

/-! ### x.f -/
theorem lookF_lookup {L : Lk} {w : Wd} {f : Str} : ∀ {fs : List (Str × V)} {vs : List D} {d : D}, DRsw L w (fs.map (·.2)) vs → lookF f (fs.map (·.1)) vs = some d → ∃ v, fs.lookup f = some v ∧ DRw L w v d
  | [], vs, d, r, h => by cases r; cases h
  | (g, v0) :: fs, vs, d, r, h => by
    cases r with
    | cons r0 rs =>
      have h : (if g = f then some _ else lookF f (fs.map (·.1)) _) = some d := h
      rw [List.lookup_cons]
      split at h
      · rename_i hg
        cases h
        subst hg
        exact ⟨v0, by simp, r0⟩
      · rename_i hg
        obtain ⟨v, e, rv⟩ := lookF_lookup rs h
        exact ⟨v, by rw [show (f == g) = false from beq_eq_false_iff_ne.mpr fun z => hg z.symm]; exact e, rv⟩
theorem snd_attr (C : Cxt X P N sc W G gn bn k T) {a : Expr} {f : Str} {pos : Pos} {xa : Ex} {cs : List Nat} (ha : PE X a (tE P W G xa)) (hc : ∀ c ∈ cs, (∃ x, T.cn[c]? = some x) ∧ (c, f) ∈ T.na) (hb : attributeBase a f X.env (eval a X.env) = eval a X.env) : PE X (.Attribute a f pos) (tE P W G (.attr xa f cs)) := by
  refine PE_imp (pe_fld ha hb) fun σ H Q ⟨w, en, R, p⟩ => ⟨w, en, R, PostG.useD (R := ev G xa en) p |>.imp fun w1 H1 e1 sv le R1 q v Tt => ?_⟩
  obtain ⟨w2, d1, le2, R2, r1, q⟩ := q v Tt
  obtain ⟨sv, e, q⟩ := q.opt
  simp only [Option.map_eq_some_iff] at e
  obtain ⟨d, e, rfl⟩ := e
  have fin : ∀ {a dx : Addr} {c : Nat} {fs : List (Str × V)} {ns : List Str} {vs : List D}, v = .ref a → H1 a = some (.ins (P.L.ca c) dx fs) → ns = fs.map (·.1) → DRsw P.L w2 (fs.map (·.2)) vs → (if c ∈ cs then lookF f ns vs else none) = some d →
      ∃ a C dx fs v', v = .ref a ∧ H1 a = some (.ins C dx fs) ∧ Cls X.K C ∧ NoAttr X.K C f ∧ fs.lookup f = some v' ∧ Q v' H1 := fun {a dx c fs ns vs} ev ea en' rr h => by
    subst en'
    split at h
    · rename_i hcc
      obtain ⟨⟨x, hx⟩, hna⟩ := hc c hcc
      obtain ⟨v', e', rv⟩ := lookF_lookup rr h
      exact ⟨a, _, dx, fs, v', ev, ea, (C.ct.cls c x hx).1.cls, C.ct.noat c f hna, e', q w2 H1 (.refl _) R2 v' (.v rv)⟩
    · cases h
  cases d1 with
  | obj c ns vs =>
    cases r1 with
    | obj h1 t1 => exact fin rfl (R2.mem.sub _ _ h1) rfl t1 e
  | ref n =>
    cases r1 with
    | @ref _ a h1 =>
      have e : (match e1.s[n]? with
        | some (.ins c ns vs) => if c ∈ cs then lookF f ns vs else none
        | _ => none) = some d := e
      split at e
      · rename_i c ns vs ec
        obtain ⟨dx, fs, ea, en', rr⟩ := R2.mem.cell n _ a ec h1
        exact fin rfl ea en' rr e
      · cases e
  | _ => cases e
end
end Ev

set_option Elab.async false
set_option linter.all false
set_option maxRecDepth 100000
set_option maxHeartbeats 1000000
namespace Ev
open PySem PySem.Spec PyProof.Rows L2

section
variable {X : Cx} {P : Pm} {N : List Str} {sc : Scope} {W : XK} {G : List Fn} {gn bn : List Str} {k : Nat} {T : ClsT} {σ : L2.St}
/-- two subexpressions as values -/
theorem two_op {xa xb : Ex} {w : Wd} {H : Hp} {en : Env} {Q : VK} {k : D → D → Env → Res Env SV} (R : Rep P w H σ en)
    (p : PostG P W σ w ((toD (ev G xa en)).bind fun x e1 => (toD (ev G xb e1)).bind fun y e2 => k x y e2) fun w' H' en' sv => ∀ v, TR P w' H' σ en' v sv → Q v H') {r : R2}
    (h : ∀ (w : Wd) (H : Hp) (en : Env) (x y : V) (d1 d2 : D), Rep P w H σ en → DRw P.L w x d1 → DRw P.L w y d2 → (PostG P W σ w (k d1 d2 en) fun w' H' en' sv => ∀ v, TR P w' H' σ en' v sv → Q v H') → r x y H Q) : tOp r (tE P W G xa) (tE P W G xb) σ H Q := by
  refine ⟨w, en, R, PostG.useD (R := ev G xa en) p |>.imp fun w1 H1 e1 sv le R1 q v T => ?_⟩
  obtain ⟨w2, d1, le2, R2, r1, q⟩ := q v T
  refine ⟨w2, e1, R2, PostG.useD (R := ev G xb e1) q |>.imp fun w3 H3 e3 sv3 le3 R3 q3 v3 T3 => ?_⟩
  obtain ⟨w4, d2, le4, R4, r2, q4⟩ := q3 v3 T3
  exact h w4 H3 e3 v v3 d1 d2 R4 (r1.up (le3.trans le4)) r2 q4

/-! ### in, not in -/
def rInA (P : Pm) (neg : Bool) : R2 := fun x y H Q => ∃ σ w en d1 d2 b, Rep P w H σ en ∧ DRw P.L w x d1 ∧ DRw P.L w y d2 ∧ inD d1 d2 en.s = some b ∧ Q (.bl (if neg then !b else b)) H
theorem keys_any {k : Str} : ∀ kvs : List (Key × V), ((kvs.map fun p => kD p.1).any fun d => match d with | .str x => decide (x = k) | _ => false) = (valV kvs (.inr k)).isSome
  | [] => rfl
  | (key, v0) :: kvs => by
    have ih := keys_any (k := k) kvs
    cases key with
    | inl i =>
      rw [valV_neg (fun z => by cases z), List.map_cons, List.any_cons, ih]
      rfl
    | inr x =>
      rw [List.map_cons, List.any_cons, ih]
      by_cases hx : x = k
      · subst hx
        rw [valV_pos rfl]
        simp [kD]
      · rw [valV_neg (fun z => hx (Sum.inr.inj z))]
        simp [kD, hx]
theorem op_inA (C : Cxt X P N sc W G gn bn k T) (neg : Bool) : OpR X (compareOp (if neg then .NotIn else .In)) (rInA P neg) := by
  rintro pins s σ0 H x y v u Q I rx ry ⟨σ, w, en, d1, d2, b, R, r1, r2, e, q⟩
  have hu : X.A.units + 65 < cLine := by have := C.room.un; omega
  cases d2 with
  | lst ys =>
    simp only [inD, Option.bind_eq_some_iff] at e
    obtain ⟨d, e1, ds, e2, e⟩ := e
    split at e
    · rename_i hs
      cases e
      have h1 : Dp X.K H x d := by rw [C.hK]; exact Dp_mono R.mem.sub (r1.dp e1)
      have h2 : Dp X.K H y (.list ds) := by rw [C.hK]; exact Dp_mono R.mem.sub (r2.dp (by simp only [D.toP, e2, Option.map_some]))
      cases neg with
      | false => exact op_inD hu pins s σ0 H x y v u Q I rx ry ⟨d, ds, h1, h2, hs.1, hs.2, q⟩
      | true => exact op_notInD hu pins s σ0 H x y v u Q I rx ry ⟨d, ds, h1, h2, hs.1, hs.2, q⟩
    · cases e
  | tup ys =>
    simp only [inD, Option.bind_eq_some_iff] at e
    obtain ⟨d, e1, ds, e2, e⟩ := e
    split at e
    · rename_i hs
      cases e
      have h1 : Dp X.K H x d := by rw [C.hK]; exact Dp_mono R.mem.sub (r1.dp e1)
      have h2 : Dp X.K H y (.tuple ds) := by rw [C.hK]; exact Dp_mono R.mem.sub (r2.dp (by simp only [D.toP, e2, Option.map_some]))
      obtain ⟨as, a1⟩ := Dp.reads I d x v h1 rx
      obtain ⟨bs, a2⟩ := Dp.reads I (.tuple ds) y u h2 ry
      cases neg with
      | false => exact SeqAt.in_tuple_reads a2 a1 (SeqAt.canLay_of_shaped hs.2) (SeqAt.canLay_of_shaped hs.1) (room_in_shaped hs.1 hu) ⟨.bl _, H, I, rfl, q⟩
      | true => exact SeqAt.notIn_tuple_reads a2 a1 (SeqAt.canLay_of_shaped hs.2) (SeqAt.canLay_of_shaped hs.1) (room_in_shaped hs.1 hu) ⟨.bl _, H, I, rfl, q⟩
    · cases e
  | str z =>
    cases d1 with
    | str x' =>
      cases e
      cases r1; cases r2
      cases neg with
      | false => exact op_in_str pins s σ0 H _ _ v u Q I rx ry ⟨_, _, rfl, rfl, q⟩
      | true => exact op_notin_str pins s σ0 H _ _ v u Q I rx ry ⟨_, _, rfl, rfl, q⟩
    | _ => cases e
  | ref n =>
    cases d1 with
    | str x' =>
      cases r1
      cases r2 with
      | @ref _ a h2 =>
        have e : (match (D.str x'), en.s[n]? with
          | .str k, some (.dct ks _) => some (ks.any fun d => match d with | .str x => decide (x = k) | _ => false)
          | _, _ => none) = some b := e
        cases ec : en.s[n]? with
        | none => rw [ec] at e; cases e
        | some c =>
          rw [ec] at e
          cases c with
          | dct ks vs =>
            obtain ⟨kvs, ea, rfl, rr⟩ := R.mem.cell n _ a ec h2
            have e : some ((kvs.map fun p => kD p.1).any fun d => match d with | .str x => decide (x = x') | _ => false) = some b := e
            rw [keys_any] at e
            cases e
            cases ry
            have g : DGet H a (.str x') (valV kvs (.inr x')) := .inl ⟨kvs, .inr x', .inl ea, rfl, rfl⟩
            cases neg with
            | false => exact d_in (by omega) I g rx fun s3 I3 => ⟨.bl _, H, I3, rfl, q⟩
            | true => exact d_notIn (by omega) I g rx fun s3 I3 => ⟨.bl _, H, I3, rfl, q⟩
          | _ => cases e
    | _ => exact (by cases r2; cases e)
  | _ => cases e
theorem snd_inx (C : Cxt X P N sc W G gn bn k T) {neg : Bool} {a b : Expr} {pos : Pos} {xa xb : Ex} (ha : PE X a (tE P W G xa)) (hb : PE X b (tE P W G xb)) (hm : behindInMarks (if neg then .NotIn else .In) b = false) :
    PE X (.Compare a [if neg then .NotIn else .In] [b] pos) (tE P W G (.inx neg xa xb)) := by
  refine PE_imp (pe_cmpR (op_inA C neg) ha hb hm) fun σ H Q ⟨w, en, R, p⟩ => two_op R p fun w H en x y d1 d2 R r1 r2 q => ?_
  obtain ⟨sv, e, q⟩ := q.opt
  simp only [Option.map_eq_some_iff] at e
  obtain ⟨c, e, rfl⟩ := e
  exact ⟨σ, w, en, d1, d2, c, R, r1, r2, e, q w H (.refl _) R _ (.v (.bl _))⟩

/-! ### the same object -/
theorem cmpInst_at {pins : List (Addr × Obj)} {s : Shared} {H : Hp} {σ : L2.St} (I : Inv X pins σ H s) {a C dx : Addr} {fs : List (Str × V)} (e : H a = some (.ins C dx fs)) (c : IdC X.K C) : s.heap.CmpInst a C [.type "object"] := by
  obtain ⟨nm, q, N, bs, hdct, sn, sub, ab, col, dd, k0, k1, k2, k3, k5, newId, lk, ok, n1, n2⟩ := c
  obtain ⟨_, _, _, ho, _⟩ := I.hok a _ e
  have X' := I.kIn
  exact ⟨_, nm, q, N, bs, hdct, sn, sub, ab, col, dd, k0, k1, k2, k3, k5, newId, _, ho, rfl, X' _ _ lk, .of_isNs (PySem.W.isNs_of_in X' ok), PySem.W.nsMap_none_of_in X' ok n1, PySem.W.nsMap_none_of_in X' ok n2⟩
def rSame (P : Pm) (cs : List Nat) (neg : Bool) : R2 := fun x y H Q => ∃ σ w en d1 d2 b, Rep P w H σ en ∧ DRw P.L w x d1 ∧ DRw P.L w y d2 ∧ sameD d1 d2 cs en.s = some b ∧ Q (.bl (if neg then !b else b)) H
theorem op_same (C : Cxt X P N sc W G gn bn k T) {cs : List Nat} (hcs : ∀ c ∈ cs, c ∈ T.idq) (neg : Bool) : OpR X (compareOp (if neg then .NotEq else .Eq)) (rSame P cs neg) := by
  rintro pins s σ0 H x y v u Q I rx ry ⟨σ, w, en, d1, d2, b, R, r1, r2, e, q⟩
  have hu : X.A.units + 1 < cLine := by have := C.room.un; omega
  cases d1 with
  | ref n =>
    cases d2 with
    | ref m =>
      cases r1 with
      | @ref _ a h1 =>
      cases r2 with
      | @ref _ b' h2 =>
      have e : (match en.s[n]?, en.s[m]? with
        | some (.ins c _ _), some (.ins d _ _) => if c ∈ cs ∧ d ∈ cs then some (decide (n = m)) else none
        | _, _ => none) = some b := e
      split at e
      · rename_i c ns1 vs1 d ns2 vs2 e1 e2
        split at e
        · rename_i hc
          cases e
          obtain ⟨dx1, fs1, ea, _, _⟩ := R.mem.cell n _ a e1 h1
          obtain ⟨dx2, fs2, eb, _, _⟩ := R.mem.cell m _ b' e2 h2
          have Z1 := cmpInst_at I ea (C.ct.idq c (hcs c hc.1))
          have Z2 := cmpInst_at I eb (C.ct.idq d (hcs d hc.2))
          cases rx; cases ry
          obtain ⟨hh, g, dr, t, os⟩ := s
          by_cases hnm : n = m
          · subst hnm
            rw [h1] at h2; cases h2
            rw [decide_eq_true rfl] at q
            cases neg with
            | false => exact compareOp_eq_same PySem.F.cmp_object Z1 (by omega) ⟨.bl true, H, I, rfl, q⟩
            | true => exact compareOp_ne_same PySem.F.cmp_object Z1 hu ⟨.bl false, H, I, rfl, q⟩
          · have hab : a ≠ b' := fun z => by
              subst z
              obtain ⟨l1, q1⟩ := List.getElem?_eq_some_iff.mp h1
              obtain ⟨l2, q2⟩ := List.getElem?_eq_some_iff.mp h2
              exact hnm ((List.getElem_inj R.mem.nd).mp (q1.trans q2.symm))
            rw [decide_eq_false hnm] at q
            cases neg with
            | false => exact compareOp_eq_other PySem.F.cmp_object PySem.F.cmp_object Z1 Z2 hab (by omega) ⟨.bl false, H, I, rfl, q⟩
            | true => exact compareOp_ne_other PySem.F.cmp_object PySem.F.cmp_object Z1 Z2 hab hu ⟨.bl true, H, I, rfl, q⟩
        · cases e
      · cases e
    | _ => cases e
  | _ => cases e
theorem snd_same (C : Cxt X P N sc W G gn bn k T) {neg : Bool} {cs : List Nat} (hcs : ∀ c ∈ cs, c ∈ T.idq) {a b : Expr} {pos : Pos} {xa xb : Ex} (ha : PE X a (tE P W G xa)) (hb : PE X b (tE P W G xb)) :
    PE X (.Compare a [if neg then .NotEq else .Eq] [b] pos) (tE P W G (.same neg xa xb cs)) := by
  refine PE_imp (pe_cmpR (op_same C hcs neg) ha hb (nobehind b (by cases neg <;> simp) (by cases neg <;> simp))) fun σ H Q ⟨w, en, R, p⟩ => two_op R p fun w H en x y d1 d2 R r1 r2 q => ?_
  obtain ⟨sv, e, q⟩ := q.opt
  simp only [Option.map_eq_some_iff] at e
  obtain ⟨c, e, rfl⟩ := e
  exact ⟨σ, w, en, d1, d2, c, R, r1, r2, e, q w H (.refl _) R _ (.v (.bl _))⟩

/-! ### isinstance -/
def Ty.val (L : Lk) : Ty → Value
  | .cls c => .ref (L.ca c)
  | t => .type t.tn
def Ty.vv (L : Lk) : Ty → V
  | .cls c => .ref (L.ca c)
  | t => .ty t.tn
theorem Ty.clsV {L : Lk} (t : Ty) : ClsV (t.vv L) (t.val L) := by cases t <;> first | exact .ty _ | exact .own _
theorem tyx_at (C : Cxt X P N sc W G gn bn k T) {w : Wd} {H : Hp} {en : Env} (R : Rep P w H σ en) {v : V} {d : D} {t : Ty} (r : DRw P.L w v d) (e : tyOf d en.s = some t) (hc : ∀ c, t = .cls c → ∃ x, T.cn[c]? = some x) : TyX X.K H v (t.val P.L) := by
  have ins : ∀ {a dx : Addr} {c : Nat} {fs : List (Str × V)}, H a = some (.ins (P.L.ca c) dx fs) → t = .cls c → TyX X.K H (.ref a) (t.val P.L) := fun {a dx c fs} ea et => by
    obtain ⟨x, hx⟩ := hc c et
    have z := (C.ct.cls c x hx).1
    subst et
    exact .base (.ins ea z.cls z.ha z.hn z.htk z.hm)
  cases d with
  | non => cases r; cases e; exact .base .non
  | bl b => cases r; cases e; exact .base (.bl b)
  | int i => cases r; cases e; exact .base (.int i)
  | str x => cases r; cases e; exact .base (.str x)
  | tup xs =>
    cases e
    cases r with
    | tup h1 t1 =>
      rcases R.mem.sub.t h1 with (h | ⟨o, h⟩) | ⟨o, its, n, lk, hcl, _⟩
      · exact .base (.tup h)
      · exact .fTuple h
      · rw [← C.hK] at lk
        exact .kTuple lk hcl
  | lst xs =>
    cases e
    cases r with
    | lst h1 t1 =>
      rcases R.mem.sub.l h1 with (h | ⟨o, h⟩) | ⟨o, its, n, lk, hcl, _⟩
      · exact .base (.lst h)
      · exact .base (.frz h)
      · rw [← C.hK] at lk
        exact .kList lk hcl
  | dct ks vs =>
    cases e
    cases r with
    | dK h1 t1 => exact .base (.dK (R.mem.sub _ _ h1))
  | obj c ns vs =>
    cases r with
    | obj h1 t1 => exact ins (R.mem.sub _ _ h1) (Option.some.inj e).symm
  | ref n =>
    cases r with
    | @ref _ a h1 =>
      have e : (match en.s[n]? with
        | some (.ins c _ _) => some (Ty.cls c)
        | some (.lst _) => some .list
        | some (.dct _ _) => some .dict
        | none => none) = some t := e
      cases ec : en.s[n]? with
      | none => rw [ec] at e; cases e
      | some c =>
        rw [ec] at e
        cases c with
        | ins c ns vs =>
          obtain ⟨dx, fs, ea, _, _⟩ := R.mem.cell n _ a ec h1
          exact ins ea (Option.some.inj e).symm
        | lst xs =>
          cases e
          obtain ⟨vs, ea, _⟩ := R.mem.cell n _ a ec h1
          exact .base (.lst ea)
        | dct ks vs =>
          cases e
          obtain ⟨kvs, ea, _, _⟩ := R.mem.cell n _ a ec h1
          exact .base (.dK ea)
  | _ => cases e
theorem kit_bb (K : PySem.W.Frag) (a t : Ty) (ha : a.nc = true) (ht : t.nc = true) (hn : t ≠ .none) : PySem.W.kitOne K (.type a.tn) (.type t.tn) = some (subTy a t) := by
  refine kit_ty ?_
  cases a <;> cases t <;> first
    | decide +kernel
    | exact absurd rfl hn
    | (cases ha; done)
    | (cases ht; done)
theorem kit_bc {K : PySem.W.Frag} {C : Addr} (c : ClsX K C) (a : Ty) (ha : a.nc = true) : PySem.W.kitOne K (.type a.tn) (.ref C) = some false := by
  unfold PySem.W.kitOne PySem.W.kitCls
  rw [if_neg (by simp)]
  simp only [c.own, if_true]
  have key : ∀ l, fastBuiltinMro a.tn = some l → (l.contains (.ref C)) = false → PySem.W.subIn K (.type a.tn) (.ref C) = some false := fun l e h => by
    show (fastBuiltinMro a.tn).map (·.contains (.ref C)) = some false
    rw [e]
    show some (l.contains (.ref C)) = some false
    rw [h]
  cases a with
  | cls d => cases ha
  | int => exact key [.type "int", .type "object"] (by decide +kernel) (by simp)
  | bool => exact key [.type "bool", .type "int", .type "object"] (by decide +kernel) (by simp)
  | str => exact key [.type "str", .type "object"] (by decide +kernel) (by simp)
  | tuple => exact key [.type "tuple", .type "object"] (by decide +kernel) (by simp)
  | list => exact key [.type "list", .type "object"] (by decide +kernel) (by simp)
  | dict => exact key [.type "dict", .type "object"] (by decide +kernel) (by simp)
  | none => exact key [.type "NoneType", .type "object"] (by decide +kernel) (by simp)
theorem kit_at (C : Cxt X P N sc W G gn bn k T) (a t : Ty) (hn : t ≠ .none) (h1 : ∀ c, a = .cls c → ∃ x, T.cn[c]? = some x) (h2 : ∀ d, t = .cls d → ∃ x, T.cn[d]? = some x) (h3 : ∀ c d, a = .cls c → t = .cls d → (c, d) ∈ T.iss) :
    PySem.W.kitOne X.K (a.val P.L) (t.val P.L) = some (subTy a t) := by
  by_cases ha : a.nc = true
  · by_cases ht : t.nc = true
    · have := kit_bb X.K a t ha ht hn
      cases a <;> cases t <;> first | exact this | (cases ha; done) | (cases ht; done)
    · cases t with
      | cls d =>
        obtain ⟨x, hx⟩ := h2 d rfl
        have := kit_bc (C.ct.cls d x hx).1 a ha
        cases a <;> first | exact this | (cases ha; done)
      | _ => exact absurd rfl ht
  · cases a with
    | cls c =>
      obtain ⟨x, hx⟩ := h1 c rfl
      by_cases ht : t.nc = true
      · have := (C.ct.cls c x hx).1.bty t ht hn
        cases t <;> first | exact this | (cases ht; done)
      · cases t with
        | cls d =>
          have := C.ct.iss c d (h3 c d rfl rfl)
          show PySem.W.kitOne X.K (.ref (P.L.ca c)) (.ref (P.L.ca d)) = some (subTy (.cls c) (.cls d))
          rw [this]
          simp [subTy]
        | _ => exact absurd rfl ht
    | _ => exact absurd rfl ha
/-- what must be seen of the text's isinstance -/
structure IsOk (T : ClsT) (ts : List Ty) (cs : List Nat) : Prop where
  nn : ∀ t ∈ ts, t ≠ Ty.none
  two : ∀ c ∈ cs, ∀ d, Ty.cls d ∈ ts → (c, d) ∈ T.iss
  cs : ∀ c ∈ cs, ∃ x, T.cn[c]? = some x
  ts : ∀ d, Ty.cls d ∈ ts → ∃ x, T.cn[d]? = some x
theorem kits_at (C : Cxt X P N sc W G gn bn k T) {a : Ty} {ts : List Ty} {cs : List Nat} (ok : IsOk T ts cs) (ha : okTy cs a = true) : PySem.W.kitAny X.K (a.val P.L) (ts.map fun t => t.val P.L) = some (ts.any (subTy a)) := by
  have h1 : ∀ c, a = .cls c → c ∈ cs := fun c e => by subst e; exact of_decide_eq_true ha
  have key : ∀ us : List Ty, (∀ t ∈ us, t ∈ ts) → PySem.W.kitAny X.K (a.val P.L) (us.map fun t => t.val P.L) = some (us.any (subTy a)) := fun us => by
    induction us with
    | nil => intro _; exact kitAny_nil
    | cons t us ih =>
      intro hs
      have ht := hs t List.mem_cons_self
      have z := kit_at C a t (ok.nn t ht) (fun c e => ok.cs c (h1 c e)) (fun d e => ok.ts d (e ▸ ht)) fun c d e1 e2 => ok.two c (h1 c e1) d (e2 ▸ ht)
      rw [List.map_cons, List.any_cons]
      refine kitAny_cons z (fun hb => ?_) fun hb => ?_
      · rw [hb, Bool.false_or]; exact ih fun t ht => hs t (List.mem_cons_of_mem _ ht)
      · rw [hb, Bool.true_or]
  exact key ts fun _ h => h
theorem snd_isi (C : Cxt X P N sc W G gn bn k T) {a c : Expr} {p pos : Pos} {xa : Ex} {t : Ty} {cs : List Nat} (ok : IsOk T [t] cs) (hb : ("isinstance" : Str) ∈ bn) (hg : Gl X "isinstance") (ha : PE X a (tE P W G xa)) (hc : PE X c (tC (t.vv P.L)))
    (h2 : starEach [a, c] X.env = (false, eval a X.env) :: starEach [c] X.env) (h1 : starEach [c] X.env = (false, eval c X.env) :: starEach [] X.env) (hpl : (backTo pos (starEach [c] X.env)).any (·.1) = false) :
    PE X (.Call (.Name "isinstance" p) [a, c] [] pos) (tE P W G (.isi xa [t] cs)) := by
  refine PE_imp (pe_callB call_isi hg (C.bfree _ hb) boot_isinstance (pa_cons ha (pa_cons hc pa_nil h1) h2) (by decide) (by decide) h2 hpl) fun σ H Q ⟨w, en, R, p⟩ => ⟨w, en, R, PostG.useD (R := ev G xa en) p |>.imp fun w1 H1 e1 sv le R1 q v Tt => ?_⟩
  obtain ⟨w2, d1, le2, R2, r1, q⟩ := q v Tt
  obtain ⟨sv, e, q⟩ := q.opt
  simp only [Option.map_eq_some_iff] at e
  obtain ⟨b, e, rfl⟩ := e
  simp only [isinD, Option.bind_eq_some_iff] at e
  obtain ⟨ty, e1', e⟩ := e
  split at e
  · rename_i hok
    cases e
    have hcl : ∀ c, ty = .cls c → c ∈ cs := fun c z => by subst z; exact of_decide_eq_true hok
    have tx := tyx_at C R2 r1 e1' fun c z => ok.cs c (hcl c z)
    have z := kit_at C ty t (ok.nn t (by simp)) (fun c z => ok.cs c (hcl c z)) (fun d z => ok.ts d (by simp [z])) fun c d z1 z2 => ok.two c (hcl c z1) d (by simp [z2])
    have ea : [t].any (subTy ty) = subTy ty t := by simp
    rw [ea] at q
    exact ⟨v, t.vv P.L, ty.val P.L, t.val P.L, _, rfl, t.clsV, tx, z, q w2 H1 (.refl _) R2 _ (.v (.bl _))⟩
  · cases e
theorem snd_isiT (C : Cxt X P N sc W G gn bn k T) {a : Expr} {es : List Expr} {p pos pt : Pos} {x1 : Nat} {xa : Ex} {ts : List Ty} {cs : List Nat} {te : TA} (ok : IsOk T ts cs) (hl : ts.length ≤ sizeLine) (hb : ("isinstance" : Str) ∈ bn) (hg : Gl X "isinstance") (ha : PE X a (tE P W G xa))
    (hc : PA X es te) (hte : ∀ σ H Q, Q (ts.map fun t => t.vv P.L) H → te σ H Q) (h2 : starEach [a, .Tuple es x1 pt] X.env = (false, eval a X.env) :: starEach [.Tuple es x1 pt] X.env) (h1 : starEach [.Tuple es x1 pt] X.env = (false, eval (.Tuple es x1 pt) X.env) :: starEach [] X.env)
    (hpl : (backTo pos (starEach [.Tuple es x1 pt] X.env)).any (·.1) = false) : PE X (.Call (.Name "isinstance" p) [a, .Tuple es x1 pt] [] pos) (tE P W G (.isi xa ts cs)) := by
  refine PE_imp (pe_callB call_isiT hg (C.bfree _ hb) boot_isinstance (pa_cons ha (pa_cons (pe_tup hc) pa_nil h1) h2) (by decide) (by decide) h2 hpl) fun σ H Q ⟨w, en, R, p⟩ => ⟨w, en, R, PostG.useD (R := ev G xa en) p |>.imp fun w1 H1 e1 sv le R1 q v Tt => ?_⟩
  obtain ⟨w2, d1, le2, R2, r1, q⟩ := q v Tt
  obtain ⟨sv, e, q⟩ := q.opt
  simp only [Option.map_eq_some_iff] at e
  obtain ⟨b, e, rfl⟩ := e
  simp only [isinD, Option.bind_eq_some_iff] at e
  obtain ⟨ty, e1', e⟩ := e
  split at e
  · rename_i hok
    cases e
    have hcl : ∀ c, ty = .cls c → c ∈ cs := fun c z => by subst z; exact of_decide_eq_true hok
    refine hte _ _ _ ⟨by rw [List.length_map]; exact hl, fun p hp => ?_⟩
    obtain ⟨R3, le3⟩ := R2.new (o := .tup (ts.map fun t => t.vv P.L)) hp
    have tx := tyx_at C R3 (r1.up le3) e1' fun c z => ok.cs c (hcl c z)
    refine ⟨v, p, ts.map fun t => t.vv P.L, ty.val P.L, ts.map fun t => t.val P.L, _, rfl, upd_same, ?_, tx, kits_at C ok hok, q _ _ le3 R3 _ (.v (.bl _))⟩
    have : ∀ us : List Ty, Paired ClsV (us.map fun t => t.vv P.L) (us.map fun t => t.val P.L) := fun us => by
      induction us with
      | nil => exact .nil
      | cons t us ih => exact .cons t.clsV ih
    exact this ts
  · cases e
end
end Ev

set_option Elab.async false
set_option linter.all false
set_option maxRecDepth 100000
set_option maxHeartbeats 1000000
namespace Ev
open PySem PySem.Spec PyProof.Rows L2

def Bi.nm : Bi → Str
  | .len => "len" | .int => "int" | .list => "list" | .tuple => "tuple" | .sum => "sum" | .max => "max" | .min => "min" | .all => "all" | .any => "any" | .abs => "abs" | .repr => "repr"
def Bi.vl : Bi → Value
  | .len => .builtin "len" | .int => .type "int" | .list => .type "list" | .tuple => .type "tuple" | .sum => .builtin "sum" | .max => .builtin "max" | .min => .builtin "min" | .all => .builtin "all" | .any => .builtin "any" | .abs => .builtin "abs" | .repr => .builtin "repr"

/-! ### plain data, dicts among it -/
def encK : Key → PyData
  | .inl i => .int i
  | .inr x => .str x
section
variable {X : Cx} {pins : List (Addr × Obj)} {σ : L2.St} {H : Hp} {s : Shared}
mutual
theorem DR.reads (I : Inv X pins σ H s) {L : Lk} (hK : X.K = L.K) {F : Hp} (sb : Sb F H) {J : List Addr} (sys : ∀ o, s.heap.get? sysModules = some o → o.cls = .type "dict") : ∀ {v : V} {d : D} {p : PyData} {u : Value}, DR L F J v d → d.toQ = some p → RelV v u →
    ∃ as, Reads s.heap u p as ∧ sysModules ∉ as
  | _, _, _, _, .non, e, r => by cases e; cases r; exact ⟨_, .none, by simp⟩
  | _, _, _, _, .bl b, e, r => by cases e; cases r; exact ⟨_, .bool b, by simp⟩
  | _, _, _, _, .int i, e, r => by cases e; obtain ⟨t, rfl⟩ := r; exact ⟨_, .int i t, by simp⟩
  | _, _, _, _, .str x, e, r => by cases e; obtain ⟨t, rfl⟩ := r; exact ⟨_, .str x t, by simp⟩
  | _, _, _, _, .tup (xs := xs) h t, e, r => by
    simp only [D.toQ, Option.map_eq_some_iff] at e
    obtain ⟨ps, e1, rfl⟩ := e
    cases r
    obtain ⟨its, rv, ⟨o, ho, hc, n, hd⟩, _⟩ := I.tuple (by rw [hK]; exact sb.t h)
    obtain ⟨as, hr, hs⟩ := DRs.reads I hK sb sys t e1 rv
    exact ⟨_, .tuple ho hc hd hr, hs⟩
  | _, _, _, _, .lst (xs := xs) h t, e, r => by
    simp only [D.toQ, Option.map_eq_some_iff] at e
    obtain ⟨ps, e1, rfl⟩ := e
    cases r
    obtain ⟨its, rv, ⟨o, n, ho, hc, _, hd⟩, _⟩ := I.list (by rw [hK]; exact sb.l h)
    obtain ⟨as, hr, hs⟩ := DRs.reads I hK sb sys t e1 rv
    refine ⟨_, .list ho hc hd hr, fun z => ?_⟩
    rcases List.mem_cons.mp z with q | q
    · rw [← q] at ho
      have z := (sys o ho).symm.trans hc
      injection z with z
      exact absurd z (by decide)
    · exact hs q
  | _, _, _, _, .dK (kvs := kvs) h t, e, r => by
    simp only [D.toQ, Option.map_eq_some_iff] at e
    obtain ⟨ps, e1, rfl⟩ := e
    cases r
    obtain ⟨_, hsys, vs, kv, dd⟩ := dk_rd I.hok (.inl (sb _ _ h))
    obtain ⟨bs, hr, hs⟩ := DRs.readsK I hK sb sys kvs t e1 kv
    refine ⟨_, PyProof.V.reads_dictOf (enc := encK) (fun k key hk => ?_) dd hr, fun z => ?_⟩
    · rcases keyIs_shape hk with ⟨i, t, rfl, rfl⟩ | ⟨x, t, rfl, rfl⟩
      · exact .int i t
      · exact .str x t
    · rcases List.mem_cons.mp z with q | q
      · rw [← q] at hsys; simp at hsys
      · exact hs q
  | _, _, _, _, .rng h, e, r => by simp [D.toQ] at e
  | _, _, _, _, .obj h t, e, r => by simp [D.toQ] at e
  | _, _, _, _, .ref h, e, r => by simp [D.toQ] at e
  | _, _, _, _, .glo g, e, r => by simp [D.toQ] at e
  | _, _, _, _, .any v, e, r => by simp [D.toQ] at e
theorem DRs.reads (I : Inv X pins σ H s) {L : Lk} (hK : X.K = L.K) {F : Hp} (sb : Sb F H) {J : List Addr} (sys : ∀ o, s.heap.get? sysModules = some o → o.cls = .type "dict") : ∀ {vs : List V} {ds : List D} {ps : List PyData} {us : List Value}, DRs L F J vs ds → D.toQs ds = some ps → Vals vs us →
    ∃ as, ReadsAll s.heap us ps as ∧ sysModules ∉ as
  | _, _, _, _, .nil, e, r => by simp only [D.toQs, Option.some.injEq] at e; subst e; cases r; exact ⟨_, .nil, by simp⟩
  | _, _, _, _, .cons h t, e, r => by
    simp only [D.toQs, Option.bind_eq_some_iff, Option.map_eq_some_iff] at e
    obtain ⟨p, e1, ps, e2, rfl⟩ := e
    cases r with
    | cons r1 r2 =>
      obtain ⟨as, q1, s1⟩ := DR.reads I hK sb sys h e1 r1
      obtain ⟨bs, q2, s2⟩ := DRs.reads I hK sb sys t e2 r2
      exact ⟨_, .cons q1 q2, fun z => (List.mem_append.mp z).elim s1 s2⟩
theorem DRs.readsK (I : Inv X pins σ H s) {L : Lk} (hK : X.K = L.K) {F : Hp} (sb : Sb F H) {J : List Addr} (sys : ∀ o, s.heap.get? sysModules = some o → o.cls = .type "dict") : ∀ (kvs : List (Key × V)) {ds : List D} {ps : List (PyData × PyData)} {us : List (Key × Value)}, DRs L F J (kvs.map (·.2)) ds →
    D.toQk (kvs.map fun p => kD p.1) ds = some ps → KV kvs us → ∃ as, PyProof.V.PairsRead s.heap encK us ps as ∧ sysModules ∉ as
  | [], ds, ps, us, t, e, r => by
    cases t
    cases r
    simp only [List.map_nil, D.toQk, Option.some.injEq] at e
    subst e
    exact ⟨_, .nil, by simp⟩
  | (.inl i, v) :: kvs, ds, ps, us, t, e, r => by
    cases t with
    | cons h t => simp [D.toQk, kD] at e
  | (.inr x, v) :: kvs, ds, ps, us, t, e, r => by
    cases t with
    | cons h t =>
      simp only [List.map_cons, kD, D.toQk, Option.bind_eq_some_iff, Option.map_eq_some_iff] at e
      obtain ⟨p, e1, qs, e2, rfl⟩ := e
      cases r with
      | cons r1 r2 =>
        rename_i b us
        obtain ⟨k', u'⟩ := b
        obtain ⟨ek, rv⟩ := r1
        have ek : Sum.inr x = k' := ek
        subst ek
        obtain ⟨as, q1, s1⟩ := DR.reads I hK sb sys h e1 rv
        obtain ⟨bs, q2, s2⟩ := DRs.readsK I hK sb sys kvs t e2 r2
        exact ⟨_, .cons q1 q2, fun z => (List.mem_append.mp z).elim s1 s2⟩
end
end

section
variable {X : Cx} {P : Pm} {N : List Str} {sc : Scope} {W : XK} {G : List Fn} {gn bn : List Str} {k : Nat} {T : ClsT} {σ : L2.St}
def rBi (P : Pm) (b : Bi) : List V → Hp → VK → Prop := fun xs H Q => ∃ σ w en ds sv, Rep P w H σ en ∧ DRsw P.L w xs ds ∧ biD b ds en.s = some sv ∧ ∀ v w' H', w.le w' → Rep P w' H' σ en → TR P w' H' σ en v sv → Q v H'
theorem fold_max : ∀ (r : List Int) (i : Int), (r.foldl (fun a b => if a < b then b else a) i ∈ i :: r) ∧ ∀ y ∈ i :: r, y ≤ r.foldl (fun a b => if a < b then b else a) i
  | [], i => ⟨by simp, by simp⟩
  | j :: r, i => by
    obtain ⟨h1, h2⟩ := fold_max r (if i < j then j else i)
    rw [List.foldl_cons]
    refine ⟨?_, fun y hy => ?_⟩
    · rcases List.mem_cons.mp h1 with e | e
      · rw [e]
        split
        · exact List.mem_cons_of_mem _ List.mem_cons_self
        · exact List.mem_cons_self
      · exact List.mem_cons_of_mem _ (List.mem_cons_of_mem _ e)
    · have h0 := h2 (if i < j then j else i) List.mem_cons_self
      rcases List.mem_cons.mp hy with e | e
      · rw [e]
        refine Int.le_trans ?_ h0
        split <;> omega
      · rcases List.mem_cons.mp e with e | e
        · rw [e]
          refine Int.le_trans ?_ h0
          split <;> omega
        · exact h2 y (List.mem_cons_of_mem _ e)
theorem fold_min : ∀ (r : List Int) (i : Int), (r.foldl (fun a b => if b < a then b else a) i ∈ i :: r) ∧ ∀ y ∈ i :: r, r.foldl (fun a b => if b < a then b else a) i ≤ y
  | [], i => ⟨by simp, by simp⟩
  | j :: r, i => by
    obtain ⟨h1, h2⟩ := fold_min r (if j < i then j else i)
    rw [List.foldl_cons]
    refine ⟨?_, fun y hy => ?_⟩
    · rcases List.mem_cons.mp h1 with e | e
      · rw [e]
        split
        · exact List.mem_cons_of_mem _ List.mem_cons_self
        · exact List.mem_cons_self
      · exact List.mem_cons_of_mem _ (List.mem_cons_of_mem _ e)
    · have h0 := h2 (if j < i then j else i) List.mem_cons_self
      rcases List.mem_cons.mp hy with e | e
      · rw [e]
        refine Int.le_trans h0 ?_
        split <;> omega
      · rcases List.mem_cons.mp e with e | e
        · rw [e]
          refine Int.le_trans h0 ?_
          split <;> omega
        · exact h2 y (List.mem_cons_of_mem _ e)
theorem cellL_at {n : Nat} {s : Store} {xs : List D} (h : cellL (.ref n) s = some xs) : s[n]? = some (.lst xs) := by
  have h : (match s[n]? with
    | some (Cell.lst xs) => some xs
    | _ => none) = some xs := h
  split at h
  · rename_i e; cases h; exact e
  · cases h
theorem one_of {L : Lk} {w : Wd} {xs : List V} {d : D} (r : DRsw L w xs [d]) : ∃ v, xs = [v] ∧ DRw L w v d := by
  cases r with
  | cons h t => cases t; exact ⟨_, rfl, h⟩
theorem two_of {L : Lk} {w : Wd} {xs : List V} {d e : D} (r : DRsw L w xs [d, e]) : ∃ v u, xs = [v, u] ∧ DRw L w v d ∧ DRw L w u e := by
  cases r with
  | cons h t =>
    obtain ⟨u, rfl, h2⟩ := one_of t
    exact ⟨_, u, rfl, h, h2⟩
theorem call_bi (C : Cxt X P N sc W G gn bn k T) (b : Bi) : CallR X b.vl (rBi P b) := by
  rintro pins s σ0 H xs us Q I rv ⟨σ, w, en, ds, sv, R, r, e, q⟩
  have sl : ∀ {a : Addr} {vs : List V}, SqL P.L.K w.F a vs → SqL X.K H a vs := fun h => by rw [C.hK]; exact R.mem.sub.l h
  have st : ∀ {a : Addr} {vs : List V}, SqT P.L.K w.F a vs → SqT X.K H a vs := fun h => by rw [C.hK]; exact R.mem.sub.t h
  have val : ∀ {v : V} {d : D}, sv = .v d → (∀ w, DRw P.L w v d) → Q v H := fun {v d} e h => by
    subst e
    exact q v w H (.refl w) R (.v (h w))
  cases b with
  | len =>
    have e : biLen ds en.s = some sv := e
    unfold biLen at e
    split at e
    · cases e
      obtain ⟨v, rfl, h⟩ := one_of r
      cases h with
      | lst h1 t1 => exact call_len_seq pins s σ0 H _ us Q I rv ⟨_, _, rfl, .inl (sl h1), by rw [t1.length]; exact val rfl fun _ => .int _⟩
    · cases e
      obtain ⟨v, rfl, h⟩ := one_of r
      cases h with
      | tup h1 t1 => exact call_len_seq pins s σ0 H _ us Q I rv ⟨_, _, rfl, .inr (st h1), by rw [t1.length]; exact val rfl fun _ => .int _⟩
    · split at e
      · rename_i hz
        cases e
        obtain ⟨v, rfl, h⟩ := one_of r
        cases h
        exact call_len_str pins s σ0 H _ us Q I rv ⟨_, rfl, by rw [← lim_eq]; exact hz, val rfl fun _ => .int _⟩
      · cases e
    · rename_i n
      split at e
      · rename_i xs' ec
        cases e
        obtain ⟨v, rfl, h⟩ := one_of r
        cases h with
        | @ref _ a h1 =>
          obtain ⟨vs, ea, t1⟩ := R.mem.cell _ _ a ec h1
          exact call_len_seq pins s σ0 H _ us Q I rv ⟨_, _, rfl, .inl (SqL.of ea), by rw [t1.length]; exact val rfl fun _ => .int _⟩
      · cases e
    · cases e
  | int =>
    have e : biInt ds = some sv := e
    unfold biInt at e
    split at e
    · cases e
      obtain ⟨v, rfl, h⟩ := one_of r
      cases h
      exact call_int1 pins s σ0 H _ us Q I rv (.inl ⟨_, rfl, val rfl fun _ => .int _⟩)
    · cases e
      obtain ⟨v, rfl, h⟩ := one_of r
      cases h
      exact call_int1 pins s σ0 H _ us Q I rv (.inr ⟨_, rfl, val rfl fun _ => .int _⟩)
    · cases e
  | list =>
    have e : biList ds en.s = some sv := e
    have fin : ∀ {a : Addr} {vs : List V} {xs : List D}, (SqL X.K H a vs ∨ SqT X.K H a vs) → DRsw P.L w vs xs → sv = .ol xs → ∀ us, Vals [.ref a] us → wpAny (model X.prog X.w) X.A (call (.type "list") us) (EP X pins σ0 Q) X.xe s := fun {a vs xs} h t ev us rv => by
      subst ev
      refine call_list_of pins s σ0 H _ us Q I rv ⟨a, vs, rfl, h, fun l hl => ?_⟩
      obtain ⟨R2, T⟩ := R.newOwn (o := .lst vs) (sv := .ol xs) hl ⟨l, vs, rfl, upd_same, t⟩
      exact q _ _ _ (.refl _) R2 T
    unfold biList at e
    split at e
    · cases e
      obtain ⟨v, rfl, h⟩ := one_of r
      cases h with
      | lst h1 t1 => exact fin (.inl (sl h1)) t1 rfl us rv
    · cases e
      obtain ⟨v, rfl, h⟩ := one_of r
      cases h with
      | tup h1 t1 => exact fin (.inr (st h1)) t1 rfl us rv
    · simp only [Option.map_eq_some_iff] at e
      obtain ⟨xs, e9, rfl⟩ := e
      obtain ⟨v, rfl, h⟩ := one_of r
      cases h with
      | @ref _ a h1 =>
        obtain ⟨vs, ea, t1⟩ := R.mem.cell _ _ a (cellL_at e9) h1
        exact fin (.inl (SqL.of ea)) t1 rfl us rv
    · cases e
  | tuple =>
    have e : biTuple ds en.s = some sv := e
    unfold biTuple at e
    split at e
    · cases e
      obtain ⟨v, rfl, h⟩ := one_of r
      cases h with
      | @lst a vs _ h1 t1 =>
        refine call_tuple_of pins s σ0 H _ us Q I rv ⟨a, vs, rfl, .inl ⟨sl h1, fun l hl => ?_⟩⟩
        obtain ⟨R2, le2⟩ := R.new (o := .tup vs) hl
        exact q _ _ _ le2 R2 (.v (.tup (.of upd_same) (t1.up le2)))
    · cases e
      obtain ⟨v, rfl, h⟩ := one_of r
      cases h with
      | @tup a vs _ h1 t1 => exact call_tuple_of pins s σ0 H _ us Q I rv ⟨a, vs, rfl, .inr ⟨st h1, q _ w H (.refl w) R (.v (.tup h1 t1))⟩⟩
    · simp only [Option.map_eq_some_iff] at e
      obtain ⟨xs, e9, rfl⟩ := e
      obtain ⟨v, rfl, h⟩ := one_of r
      cases h with
      | @ref _ a h1 =>
        obtain ⟨vs, ea, t1⟩ := R.mem.cell _ _ a (cellL_at e9) h1
        refine call_tuple_of pins s σ0 H _ us Q I rv ⟨a, vs, rfl, .inl ⟨SqL.of ea, fun l hl => ?_⟩⟩
        obtain ⟨R2, le2⟩ := R.new (o := .tup vs) hl
        exact q _ _ _ le2 R2 (.v (.tup (.of upd_same) (t1.up le2)))
    · cases e
  | sum =>
    have e : biSum ds = some sv := e
    unfold biSum at e
    split at e
    · simp only [Option.map_eq_some_iff] at e
      obtain ⟨is, e1, rfl⟩ := e
      obtain ⟨v, rfl, h⟩ := one_of r
      cases h with
      | lst h1 t1 =>
        rw [intsOf_eq e1] at t1
        have := t1.ints
        subst this
        exact cr_sum C.calm pins s σ0 H _ us Q I rv ⟨_, is, rfl, sl h1, val rfl fun _ => .int _⟩
    · cases e
  | max =>
    have e : biMax ds = some sv := e
    unfold biMax at e
    split at e
    · simp only [Option.map_eq_some_iff, Option.bind_eq_some_iff] at e
      obtain ⟨i, ⟨is, e1, e2⟩, rfl⟩ := e
      obtain ⟨v, rfl, h⟩ := one_of r
      cases h with
      | lst h1 t1 =>
        rw [intsOf_eq e1] at t1
        have := t1.ints
        subst this
        cases is with
        | nil => cases e2
        | cons i0 is =>
          cases e2
          obtain ⟨m1, m2⟩ := fold_max is i0
          refine cr_max C.calm pins s σ0 H _ us Q I rv ⟨_, i0 :: is, rfl, sl h1, by simp, fun m hm hu => ?_⟩
          have e : m = is.foldl (fun a b => if a < b then b else a) i0 := Int.le_antisymm (m2 m hm) (hu _ m1)
          subst e
          exact val rfl fun _ => .int _
    · cases e
      obtain ⟨v, u, rfl, h, h'⟩ := two_of r
      cases h; cases h'
      exact call_max2 C.calm pins s σ0 H _ us Q I rv ⟨_, _, rfl, val rfl fun _ => .int _⟩
    · cases e
  | min =>
    have e : biMin ds = some sv := e
    unfold biMin at e
    split at e
    · simp only [Option.map_eq_some_iff, Option.bind_eq_some_iff] at e
      obtain ⟨i, ⟨is, e1, e2⟩, rfl⟩ := e
      obtain ⟨v, rfl, h⟩ := one_of r
      cases h with
      | lst h1 t1 =>
        rw [intsOf_eq e1] at t1
        have := t1.ints
        subst this
        cases is with
        | nil => cases e2
        | cons i0 is =>
          cases e2
          obtain ⟨m1, m2⟩ := fold_min is i0
          refine cr_min C.calm pins s σ0 H _ us Q I rv ⟨_, i0 :: is, rfl, sl h1, by simp, fun m hm hu => ?_⟩
          have e : m = is.foldl (fun a b => if b < a then b else a) i0 := Int.le_antisymm (hu _ m1) (m2 m hm)
          subst e
          exact val rfl fun _ => .int _
    · cases e
      obtain ⟨v, u, rfl, h, h'⟩ := two_of r
      cases h; cases h'
      exact call_min2 C.calm pins s σ0 H _ us Q I rv ⟨_, _, rfl, val rfl fun _ => .int _⟩
    · cases e
  | all =>
    have e : biAll ds = some sv := e
    unfold biAll at e
    split at e
    · simp only [Option.map_eq_some_iff] at e
      obtain ⟨is, e1, rfl⟩ := e
      obtain ⟨v, rfl, h⟩ := one_of r
      cases h with
      | lst h1 t1 =>
        rw [blsOf_eq e1] at t1
        have := t1.bls
        subst this
        exact cr_all C.calm pins s σ0 H _ us Q I rv ⟨_, is, rfl, sl h1, val rfl fun _ => .bl _⟩
    · cases e
  | any =>
    have e : biAny ds = some sv := e
    unfold biAny at e
    split at e
    · simp only [Option.map_eq_some_iff] at e
      obtain ⟨is, e1, rfl⟩ := e
      obtain ⟨v, rfl, h⟩ := one_of r
      cases h with
      | lst h1 t1 =>
        rw [blsOf_eq e1] at t1
        have := t1.bls
        subst this
        exact cr_any C.calm pins s σ0 H _ us Q I rv ⟨_, is, rfl, sl h1, val rfl fun _ => .bl _⟩
    · cases e
  | abs =>
    have e : biAbs ds = some sv := e
    unfold biAbs at e
    split at e
    · cases e
      obtain ⟨v, rfl, h⟩ := one_of r
      cases h
      exact call_abs pins s σ0 H _ us Q I rv ⟨_, rfl, val rfl fun _ => .int _⟩
    · cases e
  | repr =>
    have e : biRepr ds = some sv := e
    have sys : ∀ o, s.heap.get? sysModules = some o → o.cls = .type "dict" := fun o ho => by
      obtain ⟨o', lk, hc⟩ := C.ct.sysd
      have := I.kIn _ _ lk
      rw [ho] at this
      cases this
      exact hc
    have fin : ∀ {d : D} {p : PyData} {v : V}, DRw P.L w v d → d.toQ = some p → reprP p = some sv → (∃ a, v = .ref a) → ∀ us, Vals [v] us → wpAny (model X.prog X.w) X.A (call (.builtin "repr") us) (EP X pins σ0 Q) X.xe s := fun {d p v} h e1 e2 ⟨a, ev⟩ us rv => by
      subst ev
      unfold reprP at e2
      split at e2
      · rename_i hs
        cases e2
        obtain ⟨u, rfl, ru⟩ := Vals.one rv
        obtain ⟨as, rd, ns⟩ := DR.reads I C.hK R.mem.sub sys h e1 ru
        cases ru
        refine repr_of_reads' rd hs.1 (fun _ => ns) C.grd (by have := C.room.un; have := hs.2.2; omega) (fun _ _ e => e) (fun h' u tk hk => ⟨.str p.shown, H, I.kept hk, ⟨_, rfl⟩, val rfl fun _ => .str _⟩) (by rw [← lim_eq]; exact hs.2.1)
      · cases e2
    unfold biRepr at e
    split at e
    · rename_i d
      simp only [Option.bind_eq_some_iff] at e
      obtain ⟨p, e1, e2⟩ := e
      obtain ⟨v, rfl, h⟩ := one_of r
      have sc : ∀ x : Str, sv = .v (.str x) → EP X pins σ0 Q (.str x s.toks) { s with toks := s.toks + 1 } := fun x ex => by
        subst ex
        exact ⟨.str x, H, I.kept (h' := s.heap) (fun _ _ e => e), ⟨_, rfl⟩, val rfl fun _ => .str _⟩
      have sp : p.showable = true ∧ p.shown.length ≤ lim ∧ sv = .v (.str p.shown) := by
        unfold reprP at e2
        split at e2
        · rename_i hs
          cases e2
          exact ⟨hs.1, hs.2.1, rfl⟩
        · cases e2
      obtain ⟨s1, s2, s3⟩ := sp
      cases h with
      | non =>
        cases e1
        obtain ⟨u, rfl, ru⟩ := Vals.one rv
        cases ru
        exact PySem.P.repr_of_none (sc _ s3)
      | bl b =>
        cases e1
        obtain ⟨u, rfl, ru⟩ := Vals.one rv
        cases ru
        exact PySem.P.repr_of_bool (sc _ s3)
      | int i =>
        cases e1
        obtain ⟨u, rfl, ru⟩ := Vals.one rv
        obtain ⟨t, rfl⟩ := ru
        exact PySem.P.repr_of_int (by simpa [PyData.showable] using s1) (sc _ s3)
      | str x =>
        cases e1
        obtain ⟨u, rfl, ru⟩ := Vals.one rv
        obtain ⟨t, rfl⟩ := ru
        exact PySem.P.repr_of_str (sc _ s3) (by rw [← lim_eq]; exact s2)
      | tup h1 h2 => exact fin (.tup h1 h2) e1 e2 ⟨_, rfl⟩ us rv
      | lst h1 h2 => exact fin (.lst h1 h2) e1 e2 ⟨_, rfl⟩ us rv
      | dK h1 h2 => exact fin (.dK h1 h2) e1 e2 ⟨_, rfl⟩ us rv
      | rng _ => cases e1
      | obj _ _ => cases e1
      | ref _ => cases e1
      | glo _ => cases e1
      | any _ => cases e1
    · cases e
theorem Bi.boot (b : Bi) : (∃ id, b.vl = .builtin id ∧ bootBuiltins b.nm = some (.builtin id)) ∨ ∃ t, b.vl = .type t ∧ bootBuiltins b.nm = some (.type t) := by
  cases b <;> first
    | exact .inl ⟨_, rfl, by decide +kernel⟩
    | exact .inr ⟨_, rfl, by decide +kernel⟩
theorem snd_bi (C : Cxt X P N sc W G gn bn k T) {b : Bi} {p pos : Pos} {e : Expr} {es : List Expr} {as : Ex} (hb : b.nm ∈ bn) (hg : Gl X b.nm) (ha : PA X (e :: es) (tA P W G as)) (he : starEach (e :: es) X.env = (false, eval e X.env) :: starEach es X.env)
    (hpl : (backTo pos (starEach es X.env)).any (·.1) = false) : PE X (.Call (.Name b.nm p) (e :: es) [] pos) (tE P W G (.bi b as)) := by
  have key : PE X (.Call (.Name b.nm p) (e :: es) [] pos) (tCB (rBi P b) (tA P W G as)) := by
    have h := call_bi C b
    have n1 : b.nm ≠ "__name__" := by cases b <;> decide
    have n2 : (b.nm == ("__debug__" : Str)) = false := by cases b <;> decide
    rcases Bi.boot b with ⟨id, e1, e2⟩ | ⟨id, e1, e2⟩
    · rw [e1] at h
      exact pe_callB h hg (C.bfree _ hb) e2 ha n1 n2 he hpl
    · rw [e1] at h
      exact pe_callTy h hg (C.bfree _ hb) e2 ha n1 n2 he hpl
  refine PE_imp key fun σ H Q ⟨w, en, R, p⟩ => ⟨w, en, R, (PostG.bind (R := toA (ev G as en)) p).imp fun w1 H1 e1 ds le R1 q vs rs => ?_⟩
  obtain ⟨sv, e, q⟩ := q.opt
  exact ⟨σ, w1, e1, ds, sv, R1, rs, e, fun v w' H' a b c => q w' H' a b v c⟩
/-- len(name), the name's list as it is -/
theorem snd_len (C : Cxt X P N sc W G gn bn k T) {i : Nat} {x : Str} {p q pos : Pos} (hN : N[i]? = some x) (hv : Vis sc x) (hd : (x == ("__debug__" : Str)) = false) (hcd : (x == ("__classdict__" : Str)) = false) (hb : ("len" : Str) ∈ bn) (hg : Gl X "len")
    (he : starEach [.Name x q] X.env = (false, eval (.Name x q) X.env) :: starEach [] X.env) (hpl : (backTo pos (starEach [] X.env)).any (·.1) = false) : PE X (.Call (.Name "len" p) [.Name x q] [] pos) (tE P W G (.len i)) := by
  refine PE_imp (pe_callB call_len_seq hg (C.bfree _ hb) boot_len (pa_cons (pe_var (i := i) (by rw [C.n]; exact hN) (by rw [C.scp]; exact hv) hd hcd) pa_nil he) (by decide) (by decide) he hpl) fun σ H Q ⟨w, en, R, p⟩ => ?_
  have p : PostG P W σ w (match en.get i with
    | some (.v (.lst xs)) => Res.ok (SV.v (.int xs.length)) en
    | some (.ol xs) => .ok (.v (.int xs.length)) en
    | _ => .bad) _ := p
  split at p
  · rename_i xs e
    obtain ⟨v, e1, r⟩ := R.slot i _ e
    have r : DRw P.L w v (.lst xs) := r
    cases r with
    | lst h1 t1 => exact ⟨_, e1, _, _, rfl, .inl (by rw [C.hK]; exact R.mem.sub.l h1), by rw [t1.length]; exact p.at R _ (.v (.int _))⟩
  · rename_i xs e
    obtain ⟨v, e1, a, vs, rfl, ea, t1⟩ := R.slot i _ e
    exact ⟨_, e1, _, _, rfl, .inl (SqL.of ea), by rw [t1.length]; exact p.at R _ (.v (.int _))⟩
  · exact p.elim
end
end Ev

set_option Elab.async false
set_option linter.all false
set_option maxRecDepth 100000
set_option maxHeartbeats 1000000
namespace Ev
open PySem PySem.Spec PyProof.Rows L2

/-- at its turn i an iterator gives the i-th of xs -/
def Yd (L : Lk) (w : Wd) (xs : List D) (i : Nat) (H : Hp) (v : V) (H' : Hp) : Prop :=
  (H' = H ∧ ∃ d, xs[i]? = some d ∧ DRw L w v d) ∨ ∃ t vs ds, v = .ref t ∧ H t = none ∧ H' = upd H t (.tup vs) ∧ xs[i]? = some (.tup ds) ∧ DRsw L w vs ds
def WD (L : Lk) (w : Wd) (J : It) (xs : List D) : Prop := ∃ Gd Y, Walk J xs.length Gd Y ∧ (∀ H, Sb w.F H → Gd H) ∧ ∀ i H v H', Sb w.F H → i < xs.length → Y i H v H' → Yd L w xs i H v H'
def iI (P : Pm) (W : XK) (G : List Fn) (x : Ex) : TI := fun σ H R => ∃ w en, Rep P w H σ en ∧ PostG P W σ w (itemsOf (ev G x en)) fun w' H' en' xs => ∀ J, WD P.L w' J xs → R J H'
theorem PI_imp {X : Cx} {tg e : Expr} {t t' : TI} (h : PI X tg e t) (i : ∀ σ H Q, t' σ H Q → t σ H Q) : PI X tg e t' := ⟨fun pins s σ H Q I q => h.run pins s σ H Q I (i σ H Q q)⟩
section
variable {L : Lk} {w : Wd} {xs ys : List D} {a b : Addr} {vs us : List V}
theorem wd_list (h : SqL L.K w.F a vs) (r : DRsw L w vs xs) : WD L w (Itl L.K a) xs := by
  refine ⟨fun H => SqL L.K H a vs, YAt vs, by rw [← r.length]; exact walk_list, fun H sb => sb.l h, fun i H v H' sb hi y => .inl ⟨y.1, ?_⟩⟩
  obtain ⟨d, e, rv⟩ := DRs.getV r y.2
  exact ⟨d, e, rv⟩
theorem wd_tup (h : SqT L.K w.F a vs) (r : DRsw L w vs xs) : WD L w (Itt L.K a) xs := by
  refine ⟨fun H => SqT L.K H a vs, YAt vs, by rw [← r.length]; exact walk_tup, fun H sb => sb.t h, fun i H v H' sb hi y => .inl ⟨y.1, ?_⟩⟩
  obtain ⟨d, e, rv⟩ := DRs.getV r y.2
  exact ⟨d, e, rv⟩
theorem wd_range {lo : Int} {hi : Int} : WD L w (Itr lo (hi - lo).toNat) (rangeD lo hi) := by
  have hl : (rangeD lo hi).length = (hi - lo).toNat := by unfold rangeD; rw [List.length_map, List.length_range]
  refine ⟨fun _ => True, YFn fun i => .int (lo + i), by rw [hl]; exact walk_range, fun H sb => True.intro, fun i H v H' sb hi' y => .inl ⟨y.1, .int (lo + i), ?_, ?_⟩⟩
  · unfold rangeD
    rw [hl] at hi'
    rw [List.getElem?_map, List.getElem?_range hi']
    rfl
  · rw [y.2]; exact .int _
theorem enumD_get {xs : List D} {i : Nat} : (enumD xs)[i]? = xs[i]?.map fun x => .tup [.int i, x] := by
  unfold enumD
  rw [List.getElem?_mapIdx]
theorem wd_enum (h : SqL L.K w.F a vs) (r : DRsw L w vs xs) : WD L w (Ite L.K a) (enumD xs) := by
  have hl : (enumD xs).length = vs.length := by unfold enumD; rw [List.length_mapIdx, r.length]
  refine ⟨fun H => SqL L.K H a vs, YPair (fun i => some (.int (i : Nat))) (fun i => vs[i]?), by rw [hl]; exact walk_enum, fun H sb => sb.l h, fun i H v H' sb hi y => .inr ?_⟩
  obtain ⟨t, x, z, ev, ht, eH, e1, e2⟩ := y
  cases e1
  obtain ⟨d, e, rv⟩ := DRs.getV r e2
  exact ⟨t, _, [.int i, d], ev, ht, eH, by rw [enumD_get, e]; rfl, .cons (.int _) (.cons rv .nil)⟩
theorem zipD_length : ∀ (xs ys : List D), (zipD xs ys).length = min xs.length ys.length
  | [], _ => by simp [zipD]
  | _ :: _, [] => by simp [zipD]
  | x :: xs, y :: ys => by
    show (zipD xs ys).length + 1 = min (xs.length + 1) (ys.length + 1)
    rw [zipD_length xs ys]; omega
theorem zipD_get : ∀ {xs ys : List D} {i : Nat} {x y : D}, xs[i]? = some x → ys[i]? = some y → (zipD xs ys)[i]? = some (.tup [x, y])
  | [], _, _, _, _, h, _ => by simp at h
  | _ :: _, [], _, _, _, _, h => by simp at h
  | a :: xs, b :: ys, 0, x, y, h1, h2 => by
    simp at h1 h2
    subst h1 h2
    rfl
  | a :: xs, b :: ys, i + 1, x, y, h1, h2 => by
    have := zipD_get (xs := xs) (ys := ys) (i := i) (x := x) (y := y) (by simpa using h1) (by simpa using h2)
    simpa [zipD] using this
theorem wd_zip (h : SqL L.K w.F a vs) (r : DRsw L w vs xs) (h2 : SqL L.K w.F b us) (r2 : DRsw L w us ys) : WD L w (Itz L.K a b) (zipD xs ys) := by
  refine ⟨fun H => SqL L.K H a vs ∧ SqL L.K H b us, YPair (fun i => vs[i]?) (fun i => us[i]?), by rw [zipD_length]; exact walk_zip (by rw [r.length, r2.length]), fun H sb => ⟨sb.l h, sb.l h2⟩, fun i H v H' sb hi y => .inr ?_⟩
  obtain ⟨t, x, z, ev, ht, eH, e1, e2⟩ := y
  obtain ⟨d, e, rv⟩ := DRs.getV r e1
  obtain ⟨d2, e', rv2⟩ := DRs.getV r2 e2
  exact ⟨t, _, [d, d2], ev, ht, eH, zipD_get e e', .cons rv (.cons rv2 .nil)⟩
end
section
variable {X : Cx} {P : Pm} {N : List Str} {sc : Scope} {W : XK} {G : List Fn} {gn bn : List Str} {k : Nat} {T : ClsT} {σ : L2.St} {tg : Expr}
/-- a list or a tuple -/
theorem pi_seq {l : Expr} {tl : TE} (hl : PE X l tl) : PI X tg l (fun σ H R => tl σ H fun x H1 => ∃ a, x = .ref a ∧ (((∃ xs, SqL X.K H1 a xs) ∧ R (Itl X.K a) H1) ∨ ((∃ xs, SqT X.K H1 a xs) ∧ R (Itt X.K a) H1))) := by
  refine ⟨fun pins s σ H R I h => thn (hl.run pins s σ H _ I h) fun v s1 ⟨x, H1, I1, r1, a, ex, q⟩ => ?_⟩
  subst ex
  cases r1
  have fresh : ∀ b ∈ [s1.heap.objs.size], FpOk X pins H1 b := fun b hb => by
    rw [List.mem_singleton.mp hb]
    exact I1.fpOk (Nat.le_refl _) (I1.hok.fresh (Nat.le_refl _))
  rcases q with ⟨⟨xs, hq⟩, q⟩ | ⟨⟨xs, hq⟩, q⟩
  · obtain ⟨its, rv, p, _⟩ := I1.list hq
    exact wpAny_pyIter_list p.isList ⟨_, [_], _, _, H1, rfl, I1.kept (t' := s1.toks) (fun b o e => Heap.get?_push_of_some _ e), turn_list a _, ⟨_, Heap.get?_push_size _ rfl, rfl, rfl⟩, fresh, q⟩
  · obtain ⟨its, rv, p, _⟩ := I1.tuple hq
    exact wpAny_pyIter_tuple (show s1.heap.IsTuple a its.toArray from p) ⟨_, [_], _, _, H1, rfl, I1.kept (t' := s1.toks) (fun b o e => Heap.get?_push_of_some _ e), turn_tuple a _, ⟨_, Heap.get?_push_size _ rfl, rfl, rfl⟩, fresh, q⟩
theorem itemsOf_toD {r : Res Env SV} {w : Wd} {K : Wd → Hp → Env → List D → Prop} (p : PostG P W σ w (itemsOf r) K) : PostG P W σ w r fun w1 H1 e1 sv => ∀ v, TR P w1 H1 σ e1 v sv → ∃ w' a vs xs, v = .ref a ∧ w1.le w' ∧ Rep P w' H1 σ e1 ∧ DRsw P.L w' vs xs ∧ (SqL P.L.K w'.F a vs ∨ SqT P.L.K w'.F a vs) ∧ K w' H1 e1 xs := by
  refine (PostG.bind p).imp fun w1 H1 e1 sv le R1 q v T => ?_
  have fin : ∀ {d : D} {xs : List D}, sv.d = some d → d = .lst xs ∨ d = .tup xs → PostG P W σ w1 (.ok xs e1) K → ∃ w' a vs xs, v = .ref a ∧ w1.le w' ∧ Rep P w' H1 σ e1 ∧ DRsw P.L w' vs xs ∧ (SqL P.L.K w'.F a vs ∨ SqT P.L.K w'.F a vs) ∧ K w' H1 e1 xs := fun {d xs} e hd q => by
    obtain ⟨w', le', R', r⟩ := R1.freeze T e
    rcases hd with rfl | rfl
    · cases r with
      | lst h t => exact ⟨w', _, _, xs, rfl, le', R', t, .inl h, q w' H1 le' R'⟩
    · cases r with
      | tup h t => exact ⟨w', _, _, xs, rfl, le', R', t, .inr h, q w' H1 le' R'⟩
  cases sv with
  | v d =>
    cases d with
    | lst xs => exact fin rfl (.inl rfl) q
    | tup xs => exact fin rfl (.inr rfl) q
    | _ => exact (show False from q).elim
  | ol xs => exact fin rfl (.inl rfl) q
  | _ => exact (show False from q).elim
theorem snd_seq (C : Cxt X P N sc W G gn bn k T) {l : Expr} {x : Ex} (hl : PE X l (tE P W G x)) : PI X tg l (iI P W G x) := by
  refine PI_imp (pi_seq hl) fun σ H Q ⟨w, en, R, p⟩ => ⟨w, en, R, (itemsOf_toD p).imp fun w1 H1 e1 sv le R1 q v Tt => ?_⟩
  obtain ⟨w', a, vs, xs, ev, le', R', r, h, q⟩ := q v Tt
  refine ⟨a, ev, ?_⟩
  rw [C.hK]
  rcases h with h | h
  · exact .inl ⟨⟨vs, R'.mem.sub.l h⟩, q _ (wd_list h r)⟩
  · exact .inr ⟨⟨vs, R'.mem.sub.t h⟩, q _ (wd_tup h r)⟩
theorem two62 : ((4611686018427387904 : Int)) = 2 ^ 62 := by decide
theorem snd_range1 (C : Cxt X P N sc W G gn bn k T) {e : Expr} {p pos : Pos} {x : Ex} (hb : ("range" : Str) ∈ bn) (hg : Gl X "range") (he : PE X e (tE P W G x)) (hs : starEach [e] X.env = (false, eval e X.env) :: starEach [] X.env) (hs' : starEach [e] X.env = [(false, eval e X.env)]) :
    PI X tg (.Call (.Name "range" p) [e] [] pos) (iI P W G (.rng (.int 0) x)) := by
  refine PI_imp (pi_range1 hg (C.bfree _ hb) (pa_cons he pa_nil hs) hs') fun σ H Q ⟨w, en, R, p⟩ => ⟨w, en, R, ?_⟩
  have p : PostG P W σ w (itemsOf ((toD (ev G x en)).bind fun y e2 => match (D.int 0), y with
    | .int i, .int j => if -4611686018427387904 ≤ i ∧ i < 4611686018427387904 ∧ -4611686018427387904 ≤ j ∧ j < 4611686018427387904 ∧ (j - i).toNat ≤ lim then .ok (.v (.lst (rangeD i j))) e2 else .bad
    | _, _ => .bad)) _ := p
  unfold itemsOf at p
  rw [Res.bind_assoc] at p
  refine (PostG.useD p).imp fun w1 H1 e1 sv le R1 q v Tt => ?_
  obtain ⟨w2, d, le2, R2, r, q⟩ := q v Tt
  cases d with
  | int j =>
    cases r
    have q : PostG P W σ w2 ((if -4611686018427387904 ≤ (0 : Int) ∧ (0 : Int) < 4611686018427387904 ∧ -4611686018427387904 ≤ j ∧ j < 4611686018427387904 ∧ (j - 0).toNat ≤ lim then Res.ok (SV.v (.lst (rangeD 0 j))) e1 else .bad).bind _) _ := q
    split at q
    · rename_i hj
      refine ⟨j, rfl, ?_, ?_, ?_⟩
      · have := hj.2.2.1; rw [← two62]; exact this
      · have := hj.2.2.2.1; rw [← two62]; exact this
      · have := q.at R2 (Itr 0 (j - 0).toNat) wd_range
        rw [Int.sub_zero] at this
        exact this
    · exact (show False from q).elim
  | _ => exact (show False from q).elim
theorem snd_range2 (C : Cxt X P N sc W G gn bn k T) {e f : Expr} {p pos : Pos} {x y : Ex} (hb : ("range" : Str) ∈ bn) (hg : Gl X "range") (he : PE X e (tE P W G x)) (hf : PE X f (tE P W G y)) (hs : starEach [e, f] X.env = (false, eval e X.env) :: starEach [f] X.env) (hs2 : starEach [f] X.env = (false, eval f X.env) :: starEach [] X.env)
    (hs' : starEach [e, f] X.env = [(false, eval e X.env), (false, eval f X.env)]) (hs2' : starEach [f] X.env = [(false, eval f X.env)]) : PI X tg (.Call (.Name "range" p) [e, f] [] pos) (iI P W G (.rng x y)) := by
  refine PI_imp (pi_range2 hg (C.bfree _ hb) (pa_cons he (pa_cons hf pa_nil hs2) hs) hs' hs2') fun σ H Q ⟨w, en, R, p⟩ => ⟨w, en, R, ?_⟩
  have p : PostG P W σ w (itemsOf ((toD (ev G x en)).bind fun x e1 => (toD (ev G y e1)).bind fun y e2 => match x, y with
    | .int i, .int j => if -4611686018427387904 ≤ i ∧ i < 4611686018427387904 ∧ -4611686018427387904 ≤ j ∧ j < 4611686018427387904 ∧ (j - i).toNat ≤ lim then .ok (.v (.lst (rangeD i j))) e2 else .bad
    | _, _ => .bad)) _ := p
  unfold itemsOf at p
  rw [Res.bind_assoc] at p
  refine (PostG.useD p).imp fun w1 H1 e1 sv le R1 q v Tt => ?_
  obtain ⟨w2, d, le2, R2, r, q⟩ := q v Tt
  rw [Res.bind_assoc] at q
  refine ⟨w2, e1, R2, (PostG.useD q).imp fun w3 H3 e3 sv3 le3 R3 q3 v3 T3 => ?_⟩
  obtain ⟨w4, d2, le4, R4, r2, q4⟩ := q3 v3 T3
  cases d with
  | int i =>
    cases d2 with
    | int j =>
      cases r; cases r2
      have q4 : PostG P W σ w4 ((if -4611686018427387904 ≤ i ∧ i < 4611686018427387904 ∧ -4611686018427387904 ≤ j ∧ j < 4611686018427387904 ∧ (j - i).toNat ≤ lim then Res.ok (SV.v (.lst (rangeD i j))) e3 else .bad).bind _) _ := q4
      split at q4
      · rename_i hj
        refine ⟨i, j, rfl, ⟨?_, ?_, ?_, ?_⟩, q4.at R4 (Itr i (j - i).toNat) wd_range⟩
        · have := hj.1; rw [← two62]; exact this
        · have := hj.2.1; rw [← two62]; exact this
        · have := hj.2.2.1; rw [← two62]; exact this
        · have := hj.2.2.2.1; rw [← two62]; exact this
      · exact (show False from q4).elim
    | _ => exact (show False from q4).elim
  | _ => exact (show False from q4).elim
end
end Ev

set_option Elab.async false
set_option linter.all false
set_option maxRecDepth 100000
set_option maxHeartbeats 4000000
namespace Ev
open PySem PySem.Spec PyProof.Rows L2

/-! ### (a, b, ..) = a list of that length -/
section
variable {prog : Program} {w : World} {A : Around} {E : Value → Shared → Prop} {s : Shared}
theorem list_push {h : Heap} {l : Addr} {items : Array Value} {o : Obj} (x : h.IsList l items) : (h.push o).IsList l items :=
  let ⟨ob, ho, r⟩ := x; ⟨ob, Heap.get?_push_of_some _ ho, r⟩
theorem draw_lst {it l : Addr} {items : Array Value} (ne : l ≠ it) : ∀ (n i : Nat) {s : Shared} {Q : List Value → Shared → Prop}, s.heap.IsListIter it l i → s.heap.IsList l items → i + n = items.size →
    (∀ h', h'.IsListIter it l items.size → Heap.SameBut it s.heap h' → Q (items.toList.drop i) { s with heap := h' }) → wpAny (model prog w) A (draw (.ref it) n) Q E s
  | 0, i, s, Q, hi, hl, e, q => by
    have ei : i = items.size := by omega
    subst ei
    have := q s.heap hi (Heap.SameBut.refl ..)
    rw [List.drop_of_length_le (by simp)] at this
    exact wpAny_pure this
  | n + 1, i, s, Q, hi, hl, e, q => by
    have hlt : i < items.size := by omega
    show wpAny _ _ (pyNext (.ref it) >>= _) Q E s
    refine wpAny_bind (wpAny_pyNext_list_item hi hl (x := items[i]) (by simp [hlt]) fun h1 hi1 hs1 => ?_)
    refine wpAny_bind (wpAny_holding (draw_lst ne n (i + 1) hi1 (hl.extBut hs1.extBut ne) (by omega) fun h2 hi2 hs2 => wpAny_pure ?_))
    have := q h2 hi2 (hs1.trans hs2)
    rw [show items.toList.drop i = items[i] :: items.toList.drop (i + 1) by simp [List.drop_eq_getElem_cons, hlt]] at this
    exact this
theorem unpack_lst {l : Addr} {items : Array Value} {targets : List (Bool × (Value → Sem Unit))} {Q : Unit → Shared → Prop} (hh : A.handled = none) (hl : s.heap.IsList l items) (hn : targets.length = items.size) (hstar : targets.findIdx? (·.1) = none)
    (q : ∀ h', Heap.ExtBut s.heap.objs.size s.heap h' → wpAny (model prog w) A (assignInOrder (targets.map (·.2)) items.toList) Q E { s with heap := h' }) : wpAny (model prog w) A (unpack (.ref l) targets) Q E s := by
  have ne : l ≠ s.heap.objs.size := by obtain ⟨o, ho, _⟩ := hl; exact Nat.ne_of_lt (Heap.lt_size ho)
  unfold unpack
  rw [hn, hstar]
  refine wpAny_bind (wpAny_holding ?_)
  unfold unpackItems
  refine wpAny_bind ?_
  unfold notIterableAtAll
  refine wpAny_bind (wpAny_specialOf hl.typeIs slot_list_iter.lookup (wpAny_pure ?_))
  simp only [Bool.false_eq_true, if_false]
  refine wpAny_bind (wpAny_holding (wpAny_pyIter_list hl ?_))
  refine wpAny_bind (wpAny_holding (draw_lst ne items.size 0 ⟨_, Heap.get?_push_size _ rfl, rfl, rfl⟩ (list_push hl) (by omega) fun h1 hi1 hs1 => ?_))
  rw [List.drop_zero, if_neg (by simp)]
  refine wpAny_bind (wpAny_holding (wpAny_pyNext_list_end hh hi1 ((list_push hl).extBut hs1.extBut ne) (by simp) fun h2 he2 => ?_))
  simp only [Option.isSome_none, Bool.false_eq_true, if_false]
  exact wpAny_pure (q h2 fun b o hb e => he2 b o hb (hs1.extBut b o hb (Heap.get?_push_of_some _ e)))
end
def gLst (K : PySem.W.Frag) (n : Nat) (t : TGs) : TG := fun v σ H Q => ∃ a xs, v = .ref a ∧ SqL K H a xs ∧ xs.length = n ∧ t xs σ H Q
theorem pg_lst {X : Cx} {es : List Expr} {k : Nat} {t : TGs} {n : Nat} {pos : Pos} (hc : X.calm = true) (h : PGs X es t) (hn : (assignEach es X.env).length = n) (hst : (assignEach es X.env).findIdx? (·.1) = none) : PG X (.Tuple es k pos) (gLst X.K n t) := by
  refine ⟨fun pins s σ H v u Q I r ⟨a, xs, e1, hq, hl, q⟩ => ?_⟩
  subst e1
  cases r
  obtain ⟨its, rv, ht, _⟩ := I.list hq
  rw [assign_Tuple]
  refine wpAny_bind (wpAny_standAt (unpack_lst (I.ok.hd hc) ht.isList (by simp [hn, ← hl, rv.length]) hst fun h' hx => ?_))
  have I1 : Inv X pins σ H { s with heap := h' } := I.kept (t' := s.toks) fun b o e => hx b o (Nat.ne_of_lt (Heap.lt_size e)) e
  exact h.run pins _ σ H xs _ Q I1 (by simpa using rv) q
end Ev

set_option Elab.async false
set_option linter.all false
set_option maxRecDepth 100000
set_option maxHeartbeats 1000000
namespace Ev
open PySem PySem.Spec PyProof.Rows L2

/-! ### targets -/
def Tg.size : Tg → Nat
  | .cons _ ts => ts.size + 1
  | _ => 0
mutual
def gOf (K : PySem.W.Frag) : Tg → TG
  | .v i => gName i
  | .tup ts => gTup K ts.size (gsOf K ts)
  | .lst ts => gLst K ts.size (gsOf K ts)
  | .nil => fun _ _ _ _ => False
  | .cons _ _ => fun _ _ _ _ => False
def gsOf (K : PySem.W.Frag) : Tg → TGs
  | .nil => gNil
  | .cons t ts => gCons (gOf K t) (gsOf K ts)
  | .v _ => fun _ _ _ _ => False
  | .tup _ => fun _ _ _ _ => False
  | .lst _ => fun _ _ _ _ => False
end
def Tg.slots : Tg → List Nat
  | .v i => [i]
  | .nil => []
  | .cons t ts => t.slots ++ ts.slots
  | .tup ts => ts.slots
  | .lst ts => ts.slots
theorem wipe_set {σ : L2.St} {i : Nat} {x : Option V} : ∀ {vs : List Nat}, i ∈ vs → wipe (σ.set i x) vs = wipe σ vs
  | [], h => by cases h
  | v :: vs, h => by
    by_cases hv : i ∈ vs
    · unfold wipe; rw [wipe_set hv]
    · have e : i = v := (List.mem_cons.mp h).elim id fun z => absurd z hv
      subst e
      have key : ∀ (us : List Nat), i ∉ us → wipe (σ.set i x) us = (wipe σ us).set i x := fun us => by
        induction us with
        | nil => intro _; rfl
        | cons u us ih =>
          intro h
          unfold wipe
          rw [ih fun z => h (List.mem_cons_of_mem _ z)]
          exact List.set_comm _ _ fun z => h (by rw [← z]; exact List.mem_cons_self)
      unfold wipe
      rw [key vs hv]
      simp
theorem asgTs_len : ∀ {ts : Tg} {ds : List D} {e e' : Env}, asgTs ts ds e = some e' → ds.length = ts.size
  | .nil, [], _, _, _ => rfl
  | .cons t ts, d :: ds, e, e', h => by
    simp only [asgTs, Option.bind_eq_some_iff] at h
    obtain ⟨e1, h1, h2⟩ := h
    show ds.length + 1 = ts.size + 1
    rw [asgTs_len h2]
  | .nil, _ :: _, _, _, h => by simp [asgTs] at h
  | .cons _ _, [], _, _, h => by simp [asgTs] at h
  | .v _, _, _, _, h => by simp [asgTs] at h
  | .tup _, _, _, _, h => by simp [asgTs] at h
  | .lst _, _, _, _, h => by simp [asgTs] at h
section
variable {K : PySem.W.Frag} {P : Pm} {w : Wd} {H : Hp}
mutual
theorem asg_at (hK : K = P.L.K) : ∀ (t : Tg) {d : D} {v : V} {σ : L2.St} {en e' : Env} {Q : L2.St → Hp → Prop}, Rep P w H σ en → DRw P.L w v d → asgT t d en = some e' → (∀ σ2, Rep P w H σ2 e' → (∀ vs, (∀ i ∈ t.slots, i ∈ vs) → wipe σ2 vs = wipe σ vs) → Q σ2 H) → gOf K t v σ H Q
  | .v i, d, v, σ, en, e', Q, R, r, h, q => by
    simp only [asgT] at h
    split at h
    · rename_i hi
      cases h
      exact q _ (R.store hi (.v r)) fun vs hs => wipe_set (hs i (by simp [Tg.slots]))
    · cases h
  | .tup ts, .tup ds, v, σ, en, e', Q, R, r, h, q => by
    cases r with
    | @tup a vs _ h1 t1 =>
      have h : asgTs ts ds en = some e' := by simpa only [asgT] using h
      exact ⟨a, vs, rfl, by rw [hK]; exact R.mem.sub.t h1, by rw [t1.length, asgTs_len h], asgs_at hK ts R t1 h q⟩
  | .lst ts, .lst ds, v, σ, en, e', Q, R, r, h, q => by
    cases r with
    | @lst a vs _ h1 t1 =>
      have h : asgTs ts ds en = some e' := by simpa only [asgT] using h
      exact ⟨a, vs, rfl, by rw [hK]; exact R.mem.sub.l h1, by rw [t1.length, asgTs_len h], asgs_at hK ts R t1 h q⟩
  | .lst ts, .non, v, σ, en, e', Q, R, r, h, q | .lst ts, .bl _, v, σ, en, e', Q, R, r, h, q | .lst ts, .int _, v, σ, en, e', Q, R, r, h, q | .lst ts, .str _, v, σ, en, e', Q, R, r, h, q | .lst ts, .tup _, v, σ, en, e', Q, R, r, h, q
  | .lst ts, .dct _ _, v, σ, en, e', Q, R, r, h, q | .lst ts, .rng _ _, v, σ, en, e', Q, R, r, h, q | .lst ts, .obj _ _ _, v, σ, en, e', Q, R, r, h, q | .lst ts, .ref _, v, σ, en, e', Q, R, r, h, q | .lst ts, .glo _, v, σ, en, e', Q, R, r, h, q | .lst ts, .any, v, σ, en, e', Q, R, r, h, q => by simp [asgT] at h
  | .tup ts, .non, v, σ, en, e', Q, R, r, h, q | .tup ts, .bl _, v, σ, en, e', Q, R, r, h, q | .tup ts, .int _, v, σ, en, e', Q, R, r, h, q | .tup ts, .str _, v, σ, en, e', Q, R, r, h, q | .tup ts, .lst _, v, σ, en, e', Q, R, r, h, q
  | .tup ts, .dct _ _, v, σ, en, e', Q, R, r, h, q | .tup ts, .rng _ _, v, σ, en, e', Q, R, r, h, q | .tup ts, .obj _ _ _, v, σ, en, e', Q, R, r, h, q | .tup ts, .ref _, v, σ, en, e', Q, R, r, h, q | .tup ts, .glo _, v, σ, en, e', Q, R, r, h, q | .tup ts, .any, v, σ, en, e', Q, R, r, h, q => by simp [asgT] at h
  | .nil, _, _, _, _, _, _, _, _, h, _ => by simp [asgT] at h
  | .cons _ _, _, _, _, _, _, _, _, _, h, _ => by simp [asgT] at h
theorem asgs_at (hK : K = P.L.K) : ∀ (ts : Tg) {ds : List D} {vs : List V} {σ : L2.St} {en e' : Env} {Q : L2.St → Hp → Prop}, Rep P w H σ en → DRsw P.L w vs ds → asgTs ts ds en = some e' → (∀ σ2, Rep P w H σ2 e' → (∀ us, (∀ i ∈ ts.slots, i ∈ us) → wipe σ2 us = wipe σ us) → Q σ2 H) → gsOf K ts vs σ H Q
  | .nil, [], vs, σ, en, e', Q, R, r, h, q => by
    cases r
    cases h
    exact ⟨rfl, q σ R fun _ _ => rfl⟩
  | .cons t ts, d :: ds, vs, σ, en, e', Q, R, r, h, q => by
    cases r with
    | cons r rs =>
      simp only [asgTs, Option.bind_eq_some_iff] at h
      obtain ⟨e1, h1, h2⟩ := h
      exact ⟨_, _, rfl, asg_at hK t R r h1 fun σ1 R1 w1 => asgs_at hK ts R1 rs h2 fun σ2 R2 w2 => q σ2 R2 fun us hs => by
        rw [w2 us fun i hi => hs i (by simp only [Tg.slots, List.mem_append]; exact .inr hi), w1 us fun i hi => hs i (by simp only [Tg.slots, List.mem_append]; exact .inl hi)]⟩
  | .nil, _ :: _, _, _, _, _, _, _, _, h, _ => by simp [asgTs] at h
  | .cons _ _, [], _, _, _, _, _, _, _, h, _ => by simp [asgTs] at h
  | .v _, _, _, _, _, _, _, _, _, h, _ => by simp [asgTs] at h
  | .tup _, _, _, _, _, _, _, _, _, h, _ => by simp [asgTs] at h
  | .lst _, _, _, _, _, _, _, _, _, h, _ => by simp [asgTs] at h
end
end

/-! ### comprehensions -/
def gFal : XK := fun _ _ _ => False
/-- a block's readings: under any entry -/
def bT (L : Lk) (G : List Fn) (x : Ex) : TT := fun σ H Q => ∃ P1, P1.L = L ∧ tT P1 gFal G x σ H Q
def bE (L : Lk) (G : List Fn) (x : Ex) : TE := fun σ H Q => ∃ P1, P1.L = L ∧ tD P1 gFal G x σ H Q
theorem wipeE_get {e : Env} {i : Nat} : ∀ (vs : List Nat), i ∉ vs → (wipeE e vs).get i = e.get i
  | [], _ => rfl
  | v :: vs, h => by
    show ((wipeE e vs).set v none).get i = _
    rw [get_set_ne (fun z => h (by rw [z]; exact List.mem_cons_self)), wipeE_get vs fun z => h (List.mem_cons_of_mem _ z)]
theorem wipeE_len {e : Env} : ∀ (vs : List Nat), (wipeE e vs).r.length = e.r.length
  | [] => rfl
  | v :: vs => by
    show (((wipeE e vs).r).set v none).length = _
    rw [List.length_set, wipeE_len vs]
theorem wipeE_in {e : Env} {i : Nat} : ∀ (vs : List Nat), i ∈ vs → (wipeE e vs).get i = none
  | [], h => by cases h
  | v :: vs, h => by
    show ((wipeE e vs).set v none).get i = _
    by_cases hv : i = v
    · subst hv
      by_cases hl : i < (wipeE e vs).r.length
      · exact get_set_self hl
      · unfold Env.get Env.set
        rw [List.getElem?_eq_none (by rw [List.length_set]; omega)]
        rfl
    · rw [get_set_ne hv]
      exact wipeE_in vs ((List.mem_cons.mp h).resolve_left hv)
theorem wipeE_s {e : Env} : ∀ (vs : List Nat), (wipeE e vs).s = e.s
  | [] => rfl
  | v :: vs => wipeE_s vs
theorem wipe_get {σ : L2.St} {i : Nat} : ∀ (vs : List Nat), i ∉ vs → (wipe σ vs)[i]? = σ[i]?
  | [], _ => rfl
  | v :: vs, h => by
    unfold wipe
    rw [List.getElem?_set_ne fun z => h (by rw [z]; exact List.mem_cons_self)]
    exact wipe_get vs fun z => h (List.mem_cons_of_mem _ z)
theorem Rep.wipe {P : Pm} {w : Wd} {H : Hp} {σ : L2.St} {e : Env} (R : Rep P w H σ e) (vs : List Nat) : Rep P w H (wipe σ vs) (wipeE e vs) := by
  have q := R.weak (r' := (wipeE e vs).r) (σ' := L2.wipe σ vs) (by rw [wipeE_len, wipe_length]; exact R.len) fun i sv h => by
    have h : (wipeE e vs).get i = some sv := by
      unfold Env.get at h ⊢
      exact h
    by_cases hi : i ∈ vs
    · rw [wipeE_in vs hi] at h; cases h
    · rw [wipeE_get vs hi] at h
      exact ⟨h, wipe_get vs hi⟩
  have e2 : (⟨(wipeE e vs).r, e.s⟩ : Env) = wipeE e vs := by rw [← wipeE_s (e := e) vs]
  rw [e2] at q
  exact q
theorem backE_s {e0 e : Env} : ∀ (vs : List Nat), (backE e0 e vs).s = e.s
  | [] => rfl
  | v :: vs => backE_s vs
theorem backE_len {e0 e : Env} : ∀ (vs : List Nat), (backE e0 e vs).r.length = e.r.length
  | [] => rfl
  | v :: vs => by
    show (((backE e0 e vs).r).set v _).length = _
    rw [List.length_set, backE_len vs]
theorem backE_get {e0 e : Env} {i : Nat} : ∀ (vs : List Nat), i ∉ vs → (backE e0 e vs).get i = e.get i
  | [], _ => rfl
  | v :: vs, h => by
    show ((backE e0 e vs).set v _).get i = _
    rw [get_set_ne (fun z => h (by rw [z]; exact List.mem_cons_self)), backE_get vs fun z => h (List.mem_cons_of_mem _ z)]
theorem backE_in {e0 e : Env} {i : Nat} {sv : SV} : ∀ (vs : List Nat), i ∈ vs → (backE e0 e vs).get i = some sv → ∃ d, sv = .v d ∧ e0.get i = some (.v d)
  | [], h, _ => by cases h
  | v :: vs, h, q => by
    have q : ((backE e0 e vs).set v (match e0.get v with
      | some (.v d) => some (.v d)
      | _ => none)).get i = some sv := q
    by_cases hv : i = v
    · subst hv
      have hl := get_lt q
      rw [get_set_self (by rw [show ((backE e0 e vs).set i _).r.length = (backE e0 e vs).r.length from List.length_set] at hl; exact hl)] at q
      cases e1 : e0.get i with
      | none => rw [e1] at q; cases q
      | some s1 =>
        rw [e1] at q
        cases s1 with
        | v d => cases q; exact ⟨d, rfl, rfl⟩
        | _ => cases q
    · rw [get_set_ne hv] at q
      exact backE_in vs ((List.mem_cons.mp h).resolve_left hv) q
theorem wipe_wipe {σ : L2.St} (vs : List Nat) : wipe (wipe σ vs) vs = wipe σ vs := by
  refine List.ext_getElem? fun i => ?_
  by_cases hi : i ∈ vs
  · have key : ∀ (τ : L2.St), τ.length = σ.length → (wipe τ vs)[i]? = if i < σ.length then some none else none := fun τ hl => by
      have : ∀ us : List Nat, i ∈ us → (wipe τ us)[i]? = if i < σ.length then some none else none := fun us => by
        induction us with
        | nil => intro h; cases h
        | cons u us ih =>
          intro h
          unfold wipe
          by_cases hu : u = i
          · subst hu
            by_cases hlt : u < σ.length
            · rw [List.getElem?_set_self (by rw [wipe_length, hl]; exact hlt), if_pos hlt]
            · rw [List.getElem?_eq_none (by rw [List.length_set, wipe_length, hl]; omega), if_neg hlt]
          · rw [List.getElem?_set_ne hu]
            exact ih ((List.mem_cons.mp h).resolve_left fun z => hu z.symm)
      exact this vs hi
    rw [key (wipe σ vs) (wipe_length σ vs), key σ rfl]
  · rw [wipe_get vs hi]
/-- out of the block -/
theorem Rep.back {P : Pm} {w w' : Wd} {H H' : Hp} {σ : L2.St} {e0 e : Env} {vs : List Nat} (R0 : Rep P w H σ e0) (le : w.le w') (R : Rep P w' H' (L2.wipe σ vs) e) : Rep P w' H' σ (backE e0 e vs) := by
  have ow : ∀ {i a}, Owns (backE e0 e vs) σ i a → Owns e (L2.wipe σ vs) i a := fun {i a} ⟨sv, e1, ho, q⟩ => by
    by_cases hi : i ∈ vs
    · obtain ⟨d, rfl, _⟩ := backE_in vs hi e1
      cases ho
    · rw [backE_get vs hi] at e1
      exact ⟨sv, e1, ho, by rw [wipe_get vs hi]; exact q⟩
  refine ⟨by rw [backE_s]; exact R.mem, by rw [backE_len, R.len, wipe_length], fun i sv e1 => ?_, fun i a z => R.own i a (ow z), fun i j a x y => R.dis i j a (ow x) (ow y)⟩
  by_cases hi : i ∈ vs
  · obtain ⟨d, rfl, e2⟩ := backE_in vs hi e1
    obtain ⟨v, e3, r⟩ := R0.slot i _ e2
    exact ⟨v, e3, DR.up le r⟩
  · rw [backE_get vs hi] at e1
    obtain ⟨v, e3, r⟩ := R.slot i sv e1
    rw [wipe_get vs hi] at e3
    exact ⟨v, e3, r⟩
/-- one more object is kept as it is -/
def Pm.and (P : Pm) (a : Addr) (o : HO) : Pm := ⟨P.L, upd P.H0 a o, P.F0, P.I0⟩
structure Out (P : Pm) (w : Wd) (H : Hp) (σ : L2.St) (e : Env) (a : Addr) (o : HO) : Prop where
  at_ : H a = some o
  h0 : P.H0 a = none
  nI : a ∉ w.I
  nF : w.F a = none
  nO : ∀ i, ¬ Owns e σ i a
section
variable {P : Pm} {w w' : Wd} {H H' : Hp} {σ σ' : L2.St} {e e' : Env} {a : Addr} {o : HO}
theorem Rep.inn (R : Rep P w H σ e) (u : Out P w H σ e a o) : Rep (P.and a o) w H σ e := by
  have m := R.mem
  refine ⟨⟨m.sub, m.f0, fun b ob hb hi => ?_, m.i0, fun b hb => ?_, m.fr, fun b ob hb => ?_, m.nd, m.len, m.cell⟩, R.len, R.slot, fun i b z => ?_, R.dis⟩
  · by_cases q : b = a
    · subst q
      rw [show (P.and b o).H0 b = some o from upd_same] at hb
      cases hb; exact u.at_
    · rw [show (P.and a o).H0 b = P.H0 b from upd_ne q] at hb
      exact m.ent b ob hb hi
  · rcases m.cn b hb with q | q
    · exact .inl q
    · refine .inr ?_
      rw [show (P.and a o).H0 b = P.H0 b from upd_ne fun z => u.nI (by rw [← z]; exact hb)]
      exact q
  · rcases m.fz b ob hb with q | q
    · exact .inl q
    · refine .inr ?_
      rw [show (P.and a o).H0 b = P.H0 b from upd_ne fun z => by rw [z, u.nF] at hb; cases hb]
      exact q
  · obtain ⟨a1, a2, a3⟩ := R.own i b z
    refine ⟨a1, ?_, a3⟩
    rw [show (P.and a o).H0 b = P.H0 b from upd_ne fun q => u.nO i (by rw [← q]; exact z)]
    exact a2
theorem Rep.out (u : Out P w H σ e a o) (m0 : Mem P w H e.s) (R : Rep (P.and a o) w' H' σ' e') : Rep P w' H' σ' e' ∧ Out P w' H' σ' e' a o := by
  have m := R.mem
  have no : ∀ b, (P.and a o).H0 b = none → P.H0 b = none := fun b h => by
    by_cases q : b = a
    · subst q
      rw [show (P.and b o).H0 b = some o from upd_same] at h
      cases h
    · rw [show (P.and a o).H0 b = P.H0 b from upd_ne q] at h
      exact h
  have at_ : (P.and a o).H0 a = some o := upd_same
  have nI0 : a ∉ P.I0 := fun z => u.nI (m0.i0 a z)
  refine ⟨⟨⟨m.sub, m.f0, fun b ob hb hi => ?_, m.i0, fun b hb => ?_, m.fr, fun b ob hb => ?_, m.nd, m.len, m.cell⟩, R.len, R.slot, fun i b z => ?_, R.dis⟩, ⟨m.ent a o at_ nI0, u.h0, fun z => ?_, ?_, fun i z => ?_⟩⟩
  · refine m.ent b ob ?_ hi
    rw [show (P.and a o).H0 b = P.H0 b from upd_ne fun q => by rw [q, u.h0] at hb; cases hb]
    exact hb
  · exact (m.cn b hb).imp id (no b)
  · exact (m.fz b ob hb).imp id (no b)
  · obtain ⟨a1, a2, a3⟩ := R.own i b z
    exact ⟨a1, no b a2, a3⟩
  · rcases m.cn a z with q | q
    · exact nI0 q
    · rw [at_] at q; cases q
  · cases q : w'.F a with
    | none => rfl
    | some ob =>
      rcases m.fz a ob q with z | z
      · have z : P.F0 a = some ob := z
        have := m0.f0 a ob z
        rw [u.nF] at this; cases this
      · rw [at_] at z; cases z
  · have := (R.own i a z).2.1
    rw [at_] at this; cases this
/-- what is kept outside is written -/
theorem Rep.putOut (R : Rep P w H σ e) (u : Out P w H σ e a o) (o' : HO) : Rep P w (upd H a o') σ e ∧ Out P w (upd H a o') σ e a o' := by
  refine ⟨R.mono (.refl w) (R.mem.write u.h0 u.nI u.nF) (fun i b z => upd_ne fun q => u.nO i (by rw [← q]; exact z)) fun i b z => ⟨(R.own i b z).1, (R.own i b z).2.2⟩, ⟨upd_same, u.h0, u.nI, u.nF, u.nO⟩⟩
end
section
variable {X : Cx} {P : Pm} {N : List Str} {sc : Scope} {W : XK} {G : List Fn} {gn bn : List Str} {k : Nat} {T : ClsT}
theorem toD_ok {r : Res Env SV} {d : D} {e : Env} (h : toD r = .ok d e) : toD r = .ok d e := h
/-- the turn that goes on -/
theorem compF_ok {own : List Nat} {t : Tg} {c el : Env → Res Env D} {x : D} {e e' : Env} {o : Option D} (h : compF own t c el x e = .ok o e') :
    ∃ e3 b e4, asgT t x (wipeE e own) = some e3 ∧ c e3 = .ok (.bl b) e4 ∧ ((b = true ∧ ∃ d e5, el e4 = .ok d e5 ∧ o = some d ∧ e' = wipeE e5 own) ∨ (b = false ∧ o = none ∧ e' = wipeE e4 own)) := by
  unfold compF at h
  cases e1 : asgT t x (wipeE e own) with
  | none => rw [e1] at h; cases h
  | some e3 =>
    rw [e1, Res.opt_some, Res.bind_ok] at h
    cases e2 : c e3 with
    | err y S => rw [e2] at h; cases h
    | bad => rw [e2] at h; cases h
    | ok b e4 =>
      rw [e2, Res.bind_ok] at h
      cases b with
      | bl b =>
        cases b with
        | false => cases h; exact ⟨e3, false, e4, rfl, e2, .inr ⟨rfl, rfl, rfl⟩⟩
        | true =>
          cases e3' : el e4 with
          | err y S => rw [e3'] at h; cases h
          | bad => rw [e3'] at h; cases h
          | ok d e5 =>
            rw [e3'] at h
            cases h
            exact ⟨e3, true, e4, rfl, e2, .inl ⟨rfl, d, e5, e3', rfl, rfl⟩⟩
      | _ => cases h
theorem drop_cons {α : Type} {xs : List α} {i : Nat} {x : α} (h : xs[i]? = some x) : xs.drop i = x :: xs.drop (i + 1) := by
  obtain ⟨hi, e⟩ := List.getElem?_eq_some_iff.mp h
  rw [List.drop_eq_getElem_cons hi, e]
theorem lc_of (C : Cxt X P N sc W G gn bn k T) {own : List Nat} {t : Tg} {xi xc xe : Ex} {σ : L2.St} {H : Hp} {Q : VK} (hs : ∀ i ∈ t.slots, i ∈ own) (hT : tE P W G (.comp own t xi xc xe) σ H Q) :
    tLc (iI P W G xi) (gOf X.K t) (bT P.L G xc) (bE P.L G xe) own σ H Q := by
  obtain ⟨w, en, R, p⟩ := hT
  refine ⟨w, en, R, (PostG.bind (R := itemsOf (ev G xi en)) p).imp fun w1 H1 e1 xs le R1 q J wd D hD => ?_⟩
  obtain ⟨Gd, Y, wk, hG, hY⟩ := wd
  generalize hf : compF own t (fun e3 => toD (ev G xc e3)) (fun e4 => toD (ev G xe e4)) = f at q
  have q : PostG P W σ w1 (if xs.length ≤ lim then (noErr (compLoop f xs (wipeE e1 own) [])).bind fun ys e6 => Res.ok (SV.ol ys) (backE e1 e6 own) else .bad) fun w' H' en' sv => ∀ v, TR P w' H' σ en' v sv → Q v H' := q
  by_cases hlim : xs.length ≤ lim
  case neg => rw [if_neg hlim] at q; exact q.elim
  rw [if_pos hlim] at q
  have key : ∃ ys e6, compLoop f xs (wipeE e1 own) [] = .ok ys e6 ∧ ∀ w' H', w1.le w' → Rep P w' H' σ (backE e1 e6 own) → ∀ v, TR P w' H' σ (backE e1 e6 own) v (.ol ys) → Q v H' := by
    cases e : compLoop f xs (wipeE e1 own) [] with
    | ok ys e6 => rw [e] at q; exact ⟨ys, e6, rfl, q⟩
    | err y S => rw [e] at q; exact (show False from q).elim
    | bad => rw [e] at q; exact (show False from q).elim
  obtain ⟨ys, e6, eq, fin⟩ := key
  obtain ⟨n0, nI, nF⟩ := R1.mem.no0 hD
  have u0 : Out P w1 (upd H1 D (.lst [])) (wipe σ own) (wipeE e1 own) D (.lst []) ∧ Rep P w1 (upd H1 D (.lst [])) (wipe σ own) (wipeE e1 own) := by
    have Rw := R1.wipe own
    have nO : ∀ i, ¬ Owns (wipeE e1 own) (wipe σ own) i D := Rw.noOwn hD
    refine ⟨⟨upd_same, n0, nI, nF, nO⟩, Rw.mono (.refl w1) (Rw.mem.write n0 nI nF) (fun i b z => upd_ne fun q => nO i (by rw [← q]; exact z)) fun i b z => ⟨(Rw.own i b z).1, (Rw.own i b z).2.2⟩⟩
  refine lc_it wk (fun i H => ∃ w e acc vacc, w1.le w ∧ Rep P w H (wipe σ own) e ∧ Out P w H (wipe σ own) e D (.lst vacc) ∧ DRsw P.L w vacc acc ∧ vacc.length ≤ i ∧ compLoop f (xs.drop i) e acc = .ok ys e6) ?_ ?_ ?_ ?_
  · exact ⟨w1, _, [], [], .refl _, u0.2, u0.1, .nil, Nat.le_refl _, eq⟩
  · rintro i H hi ⟨w, e, acc, vacc, le, R, _⟩
    exact hG H (le.f.trans R.mem.sub)
  · rintro i x H H' hi ⟨w, e, acc, vacc, le, R, u, ra, hl, eqi⟩ y
    have y := hY i H x H' (le.f.trans R.mem.sub) hi y
    -- the item
    have item : ∃ d w', xs[i]? = some d ∧ w.le w' ∧ Rep P w' H' (wipe σ own) e ∧ Out P w' H' (wipe σ own) e D (.lst vacc) ∧ DRw P.L w' x d := by
      rcases y with ⟨rfl, d, ed, rd⟩ | ⟨tt, vs, ds, rfl, ht, rfl, ed, rd⟩
      · exact ⟨d, w, ed, .refl w, R, u, rd.up le⟩
      · obtain ⟨R2, le2⟩ := R.new (o := .tup vs) ht
        have ne : D ≠ tt := fun z => by rw [← z, u.at_] at ht; cases ht
        refine ⟨_, _, ed, le2, R2, ⟨by rw [upd_ne ne]; exact u.at_, u.h0, u.nI, by show upd w.F tt _ D = none; rw [upd_ne ne]; exact u.nF, u.nO⟩, .tup (.of upd_same) (rd.up (le.trans le2))⟩
    obtain ⟨d, w', ed, le', R', u', rd⟩ := item
    rw [drop_cons ed] at eqi
    have eqi : (f d e).bind (fun o e' => compLoop f (xs.drop (i + 1)) e' (match o with | some d => acc ++ [d] | none => acc)) = .ok ys e6 := eqi
    cases ef : f d e with
    | err y S => rw [ef] at eqi; cases eqi
    | bad => rw [ef] at eqi; cases eqi
    | ok o e' =>
      rw [ef, Res.bind_ok] at eqi
      rw [← hf] at ef
      obtain ⟨e3, b, e4, ea, ec, eb⟩ := compF_ok ef
      have Rw : Rep P w' H' (wipe σ own) (wipeE e own) := by
        have := R'.wipe own
        rwa [show wipe (wipe σ own) own = wipe σ own from wipe_wipe own] at this
      have uw : Out P w' H' (wipe σ own) (wipeE e own) D (.lst vacc) := ⟨u'.at_, u'.h0, u'.nI, u'.nF, fun j z => by
        obtain ⟨sv, g1, g2, g3⟩ := z
        by_cases hj : j ∈ own
        · rw [wipeE_in own hj] at g1; cases g1
        · rw [wipeE_get own hj] at g1
          exact u'.nO j ⟨sv, g1, g2, g3⟩⟩
      refine asg_at (P := P.and D (.lst vacc)) (w := w') (en := wipeE e own) C.hK t (Rw.inn uw) rd ea fun σ2 R3 hw => ⟨?_, ?_⟩
      · rw [hw own hs, wipe_wipe]
      · have hw2 : wipe σ2 own = wipe σ own := by rw [hw own hs, wipe_wipe]
        refine ⟨P.and D (.lst vacc), rfl, w', e3, R3, ?_⟩
        rw [ec]
        intro w4 H4 le4 R4
        refine ⟨b, rfl, ?_⟩
        have lst : ∀ {w5 : Wd} {H5 : Hp} {e5 : Env}, Rep (P.and D (.lst vacc)) w5 H5 σ2 e5 → Rep P w5 H5 (wipe σ own) (wipeE e5 own) ∧ Out P w5 H5 (wipe σ own) (wipeE e5 own) D (.lst vacc) := fun {w5 H5 e5} R5 => by
          obtain ⟨R6, u6⟩ := R5.out uw Rw.mem
          have R7 := R6.wipe own
          rw [hw2] at R7
          refine ⟨R7, ⟨u6.at_, u6.h0, u6.nI, u6.nF, fun j z => ?_⟩⟩
          obtain ⟨sv, g1, g2, g3⟩ := z
          by_cases hj : j ∈ own
          · rw [wipeE_in own hj] at g1; cases g1
          · rw [wipeE_get own hj] at g1
            rw [← hw2, wipe_get own hj] at g3
            exact u6.nO j ⟨sv, g1, g2, g3⟩
        rcases eb with ⟨rfl, d5, e5, ee, rfl, rfl⟩ | ⟨rfl, rfl, rfl⟩
        · show (if true = true then _ else _)
          rw [if_pos rfl]
          refine ⟨P.and D (.lst vacc), rfl, w4, e4, R4, ?_⟩
          rw [ee]
          intro w5 H5 le5 R5 v rv
          obtain ⟨R6, u6⟩ := lst R5
          refine ⟨vacc, u6.at_, ?_, ?_⟩
          · rw [lim_eq] at hlim
            omega
          · obtain ⟨R7, u7⟩ := R6.putOut u6 (.lst (vacc ++ [v]))
            refine ⟨w5, _, acc ++ [d5], vacc ++ [v], ((le.trans le').trans le4).trans le5, R7, u7, ?_, by rw [List.length_append]; simp only [List.length_singleton]; omega, eqi⟩
            exact (ra.up ((le'.trans le4).trans le5)).append (.cons rv .nil)
        · show (if false = true then _ else _)
          rw [if_neg (by decide)]
          obtain ⟨R6, u6⟩ := lst R4
          exact ⟨w4, _, acc, vacc, (le.trans le').trans le4, R6, u6, ra.up (le'.trans le4), by omega, eqi⟩
  · rintro H ⟨w, e, acc, vacc, le, R, u, ra, hl, eqi⟩
    have : xs.drop xs.length = [] := List.drop_length
    rw [this] at eqi
    have eqi : Res.ok acc e = .ok ys e6 := eqi
    injection eqi with h1 h2
    rw [← h1, ← h2] at fin
    have Rb : Rep P w H σ (backE e1 e own) := Rep.back R1 le R
    refine fin w H le Rb (.ref D) ⟨⟨D, vacc, rfl, u.at_, ra⟩, fun _ a ea => ?_⟩
    cases ea
    refine ⟨u.nF, u.h0, u.nI, fun j ⟨sv, g1, g2, g3⟩ => ?_⟩
    by_cases hj : j ∈ own
    · obtain ⟨d, rfl, _⟩ := backE_in own hj g1
      cases g2
    · rw [backE_get own hj] at g1
      exact u.nO j ⟨sv, g1, g2, by rw [wipe_get own hj]; exact g3⟩
end
end Ev

set_option Elab.async false
set_option linter.all false
set_option maxRecDepth 100000
set_option maxHeartbeats 1000000
namespace Ev
open PySem PySem.Spec PyProof.Rows L2

/-! ### looking at the text -/
def vName : Expr → Option Str
  | .Name x _ => some x
  | _ => none
def vCst : Expr → Option Const
  | .Constant c _ _ => some c
  | _ => none
def vTup : Expr → Option (List Expr)
  | .Tuple es _ _ => some es
  | _ => none
def vLst : Expr → Option (List Expr)
  | .List es _ => some es
  | _ => none
def vBin : Expr → Option (Expr × Operator × Expr)
  | .BinOp a o b _ => some (a, o, b)
  | _ => none
def vUn : Expr → Option (UnaryOp × Expr)
  | .UnaryOp o a _ => some (o, a)
  | _ => none
def vCmp : Expr → Option (Expr × List CmpOp × List Expr)
  | .Compare a os bs _ => some (a, os, bs)
  | _ => none
def vBool : Expr → Option (BoolOp × List Expr × Pos)
  | .BoolOp o es p => some (o, es, p)
  | _ => none
def vIf : Expr → Option (Expr × Expr × Expr)
  | .IfExp c a b _ => some (c, a, b)
  | _ => none
def vSub : Expr → Option (Expr × Expr)
  | .Subscript a b _ => some (a, b)
  | _ => none
def vAttr : Expr → Option (Expr × Str)
  | .Attribute a f _ => some (a, f)
  | _ => none
/-- a call of a name -/
def vCall : Expr → Option (Str × List Expr × List Keyword)
  | .Call (.Name x _) es ks _ => some (x, es, ks)
  | _ => none
def vComp : Expr → Option (Expr × Expr × Expr × List Expr × Scope)
  | .ListComp e [⟨t, i, fs, 0⟩] sc _ => some (e, t, i, fs, sc)
  | _ => none
def vDict : Expr → Option (List (Option Expr) × List Expr)
  | .Dict ks vs _ => some (ks, vs)
  | _ => none
theorem vDict_ok {e : Expr} {ks : List (Option Expr)} {vs : List Expr} (h : vDict e = some (ks, vs)) : ∃ p, e = .Dict ks vs p := by
  unfold vDict at h; split at h
  · cases h; exact ⟨_, rfl⟩
  · cases h
/-- keys that are texts -/
def keysAre : List (Option Expr) → Option (List Str)
  | [] => some []
  | some (.Constant (.str k) _ _) :: r => (keysAre r).map fun ks => k :: ks
  | _ :: _ => none
theorem vName_ok {e : Expr} {x : Str} (h : vName e = some x) : ∃ p, e = .Name x p := by
  unfold vName at h; split at h
  · cases h; exact ⟨_, rfl⟩
  · cases h
theorem vCst_ok {e : Expr} {c : Const} (h : vCst e = some c) : ∃ j p, e = .Constant c j p := by
  unfold vCst at h; split at h
  · cases h; exact ⟨_, _, rfl⟩
  · cases h
theorem vTup_ok {e : Expr} {es : List Expr} (h : vTup e = some es) : ∃ j p, e = .Tuple es j p := by
  unfold vTup at h; split at h
  · cases h; exact ⟨_, _, rfl⟩
  · cases h
theorem vLst_ok {e : Expr} {es : List Expr} (h : vLst e = some es) : ∃ p, e = .List es p := by
  unfold vLst at h; split at h
  · cases h; exact ⟨_, rfl⟩
  · cases h
theorem vBin_ok {e a b : Expr} {o : Operator} (h : vBin e = some (a, o, b)) : ∃ p, e = .BinOp a o b p := by
  unfold vBin at h; split at h
  · cases h; exact ⟨_, rfl⟩
  · cases h
theorem vUn_ok {e a : Expr} {o : UnaryOp} (h : vUn e = some (o, a)) : ∃ p, e = .UnaryOp o a p := by
  unfold vUn at h; split at h
  · cases h; exact ⟨_, rfl⟩
  · cases h
theorem vCmp_ok {e a : Expr} {os : List CmpOp} {bs : List Expr} (h : vCmp e = some (a, os, bs)) : ∃ p, e = .Compare a os bs p := by
  unfold vCmp at h; split at h
  · cases h; exact ⟨_, rfl⟩
  · cases h
theorem vBool_ok {e : Expr} {o : BoolOp} {es : List Expr} {p : Pos} (h : vBool e = some (o, es, p)) : e = .BoolOp o es p := by
  unfold vBool at h; split at h
  · cases h; rfl
  · cases h
theorem vIf_ok {e a b c : Expr} (h : vIf e = some (c, a, b)) : ∃ p, e = .IfExp c a b p := by
  unfold vIf at h; split at h
  · cases h; exact ⟨_, rfl⟩
  · cases h
theorem vSub_ok {e a b : Expr} (h : vSub e = some (a, b)) : ∃ p, e = .Subscript a b p := by
  unfold vSub at h; split at h
  · cases h; exact ⟨_, rfl⟩
  · cases h
theorem vAttr_ok {e a : Expr} {f : Str} (h : vAttr e = some (a, f)) : ∃ p, e = .Attribute a f p := by
  unfold vAttr at h; split at h
  · cases h; exact ⟨_, rfl⟩
  · cases h
theorem vCall_ok {e : Expr} {x : Str} {es : List Expr} {ks : List Keyword} (h : vCall e = some (x, es, ks)) : ∃ p q, e = .Call (.Name x p) es ks q := by
  unfold vCall at h; split at h
  · cases h; exact ⟨_, _, rfl⟩
  · cases h
theorem vComp_ok {e el t i : Expr} {fs : List Expr} {sc : Scope} (h : vComp e = some (el, t, i, fs, sc)) : ∃ p, e = .ListComp el [⟨t, i, fs, 0⟩] sc p := by
  unfold vComp at h; split at h
  · cases h; exact ⟨_, rfl⟩
  · cases h

def noStar : Expr → Bool
  | .Starred _ _ => false
  | _ => true
theorem star_one {e : Expr} (h : noStar e = true) (es : List Expr) (env : PySem.Env) : starEach (e :: es) env = (false, eval e env) :: starEach es env := by
  cases e <;> first | rfl | cases h
theorem star_any (pos : Pos) (env : PySem.Env) : ∀ {es : List Expr}, (es.all noStar = true) → (backTo pos (starEach es env)).any (·.1) = false
  | [], _ => rfl
  | e :: es, h => by
    rw [List.all_cons, Bool.and_eq_true] at h
    rw [star_one h.1]
    show (false || (backTo pos (starEach es env)).any (·.1)) = false
    rw [star_any pos env h.2]
    rfl
/-- an index that is no slice -/
def noSlice : Expr → Bool
  | .Slice .. => false
  | _ => true
theorem plainIx {e : Expr} (h : noSlice e = true) : PlainIx e := by
  intro o i
  cases e <;> first | rfl | cases h
/-- the base of an attribute is not super() -/
def noSuper : Expr → Bool
  | .Call .. => false
  | _ => true
theorem baseIx {e : Expr} {f : Str} {env : PySem.Env} {whole : Sem Value} (h : noSuper e = true) : attributeBase e f env whole = whole := by
  cases e <;> first | rfl | cases h
/-- a test by the value's truth -/
def valTest : Expr → Bool
  | .UnaryOp .Not _ _ => false
  | .BoolOp .. => false
  | .IfExp .. => false
  | .Compare .. => false
  | _ => true
theorem valIx {e : Expr} {env : PySem.Env} (h : valTest e = true) (whole : Sem Value) : isTrue e env whole = (do let v ← whole; standAt e.pos; holding [v] (truthy v)) := by
  cases e with
  | UnaryOp o a p => cases o <;> first | rfl | cases h
  | BoolOp _ _ _ => cases h
  | IfExp _ _ _ _ => cases h
  | Compare _ _ _ _ => cases h
  | _ => rfl
def noSet : Expr → Bool
  | .Set .. => false
  | _ => true
theorem setIx {e : Expr} {env : PySem.Env} (h : noSet e = true) (x : Value) : foldedSetIterable e env x = pure x := by
  cases e <;> first | rfl | cases h
def visB (sc : Scope) (x : Str) : Bool := match sc.names.lookup x with
  | some .local => true
  | some .cell => true
  | some .free => true
  | _ => false
theorem vis_of {sc : Scope} {x : Str} (h : visB sc x = true) : Vis sc x := by
  unfold visB at h
  unfold Vis
  split at h <;> first | (rename_i e; rw [e]; simp; done) | cases h
def locB (sc : Scope) (x : Str) : Bool := match sc.names.lookup x with
  | some .local => true
  | some .cell => true
  | _ => false
theorem loc_of {sc : Scope} {x : Str} (h : locB sc x = true) : L2.Loc sc x := by
  unfold locB at h
  unfold L2.Loc
  split at h <;> first | (rename_i e; rw [e]; simp; done) | cases h
def glB (sc : Scope) (x : Str) : Bool := match sc.names.lookup x with
  | some .globalImplicit => true
  | _ => false
theorem gl_of {X : Cx} {sc : Scope} (hs : X.env.scope = sc) {x : Str} (h : glB sc x = true) : Gl X x := by
  unfold glB at h
  unfold Gl Env.kindOf
  rw [hs]
  split at h <;> first | assumption | cases h
theorem loc_relS {sc scope : Scope} {x : Str} (h : L2.Loc scope x) : L2.Loc (relS scope sc) x := by
  rcases h with h | h
  · exact .inl (lookup_relS_keep (by decide) h)
  · exact .inr (lookup_relS_keep (by decide) h)
/-- a call's keywords, in the order written -/
def kwNames : List Keyword → Option (List Str)
  | [] => some []
  | ⟨some k, _, _⟩ :: r => (kwNames r).map fun ks => k :: ks
  | ⟨none, _, _⟩ :: _ => none
theorem kw_ok {pos : Pos} {env : PySem.Env} : ∀ {kws : List Keyword} {ks : List Str}, kwNames kws = some ks → (backToKw pos (keywordEach kws env)).all (·.1.isSome) = true ∧ (backToKw pos (keywordEach kws env)).filterMap (·.1) = ks ∧ (backToKw pos (keywordEach kws env)).any (·.1.isNone) = false
  | [], ks, h => by cases h; exact ⟨rfl, rfl, rfl⟩
  | ⟨some k, v, p⟩ :: r, ks, h => by
    have h1 : (kwNames r).map (fun ks => k :: ks) = some ks := h
    simp only [Option.map_eq_some_iff] at h1
    obtain ⟨ks', h2, e2⟩ := h1
    subst e2
    obtain ⟨a, b, c⟩ := kw_ok (pos := pos) (env := env) h2
    refine ⟨?_, ?_, ?_⟩
    · show (true && (backToKw pos (keywordEach r env)).all (·.1.isSome)) = true
      rw [a]; rfl
    · show k :: (backToKw pos (keywordEach r env)).filterMap (·.1) = k :: ks'
      rw [b]
    · show (false || (backToKw pos (keywordEach r env)).any (·.1.isNone)) = false
      rw [c]; rfl
  | ⟨none, _, _⟩ :: _, _, h => by cases h

/-- what the checker knows of the whole text -/
structure Chk where
  N : List Str
  gn : List Str
  bn : List Str
  T : ClsT
  ng : Nat
inductive Md where
  | e | a | t | i (tup : Bool) | k | d (ks : List Str)
mutual
/-- a comprehension's (or a for's) target -/
def okT (N : List Str) (sc : Scope) (fk : Str → Bool) : Tg → Expr → Bool
  | .v i, e => (match vName e with
    | some x => decide (N[i]? = some x) && (match sc.names.lookup x with
      | some .local => true
      | some .cell => fk x
      | _ => false)
    | none => false)
  | .tup ts, e => (match vTup e with
    | some es => okTs N sc fk ts es
    | none => false)
  | .lst ts, e => (match vTup e with
    | some es => okTs N sc fk ts es
    | none => false)
  | .nil, _ => false
  | .cons _ _, _ => false
def okTs (N : List Str) (sc : Scope) (fk : Str → Bool) : Tg → List Expr → Bool
  | .nil, [] => true
  | .cons t ts, e :: es => okT N sc fk t e && okTs N sc fk ts es
  | _, _ => false
end
def tyName (T : ClsT) (bn : List Str) (sc : Scope) : Ty → Expr → Bool
  | .cls c, e => (match vName e, T.cn[c]? with
    | some x, some y => decide (x = y) && glB sc x && decide (x ≠ "__debug__")
    | _, _ => false)
  | .none, _ => false
  | t, e => (match vName e with
    | some x => decide (x = Str.ofString t.tn) && glB sc x && decide (x ∈ bn)
    | none => false)
def tyNames (T : ClsT) (bn : List Str) (sc : Scope) : List Ty → List Expr → Bool
  | [], [] => true
  | t :: ts, e :: es => tyName T bn sc t e && tyNames T bn sc ts es
  | _, _ => false
def isOkB (T : ClsT) (ts : List Ty) (cs : List Nat) : Bool := (ts.all fun t => match t with
  | .none => false
  | .cls d => decide (d < T.cn.length) && cs.all fun c => decide ((c, d) ∈ T.iss)
  | _ => true) && cs.all fun c => decide (c < T.cn.length)
theorem isOk_of {T : ClsT} {ts : List Ty} {cs : List Nat} (h : isOkB T ts cs = true) : IsOk T ts cs := by
  unfold isOkB at h
  rw [Bool.and_eq_true, List.all_eq_true, List.all_eq_true] at h
  obtain ⟨h1, h2⟩ := h
  refine ⟨fun t ht e => ?_, fun c hc d hd => ?_, fun c hc => ?_, fun d hd => ?_⟩
  · have := h1 t ht
    subst e
    cases this
  · have := h1 _ hd
    simp only [Bool.and_eq_true, List.all_eq_true, decide_eq_true_eq] at this
    exact this.2 c hc
  · have := h2 c hc
    simp only [decide_eq_true_eq] at this
    exact ⟨_, List.getElem?_eq_getElem this⟩
  · have := h1 _ hd
    simp only [Bool.and_eq_true, List.all_eq_true, decide_eq_true_eq] at this
    exact ⟨_, List.getElem?_eq_getElem this.1⟩
def cmpPlain : Cop → Bool
  | .isin => false
  | .notin => false
  | _ => true
theorem cmpPlain_ok {o : Cop} (h : cmpPlain o = true) : o ≠ .isin ∧ o ≠ .notin := by
  cases o <;> first | exact ⟨by decide, by decide⟩ | cases h
def notDbg (x : Str) : Bool := decide ((x == ("__debug__" : Str)) = false) && decide ((x == ("__classdict__" : Str)) = false)
def okCall (c : Chk) (sc : Scope) (x : Str) (es : List Expr) : Bool := glB sc x && notDbg x && es.all noStar
end Ev

set_option Elab.async false
set_option linter.all false
set_option maxRecDepth 100000
set_option maxHeartbeats 2000000
namespace Ev
open PySem PySem.Spec PyProof.Rows L2

def single (m : Md) (es : List Expr) (f : Expr → Bool) : Bool := match es with
  | [e] => (match m with
    | .e => f e
    | .t => valTest e && f e
    | .i _ => noSet e && f e
    | _ => false)
  | _ => false
def dual (m : Md) (es : List Expr) (f : Expr → Bool) : Bool := match es with
  | [e] => (match m with
    | .e => f e
    | .t => f e
    | _ => false)
  | _ => false
def isYes : Ex → Bool
  | .yes => true
  | _ => false
theorem isYes_ok {x : Ex} (h : isYes x = true) : x = .yes := by
  cases x <;> first | rfl | cases h
def isB (e : Expr) : Bool := (vBool e).isSome
def isTupE (e : Expr) : Bool := (vTup e).isSome
def ownN (N : List Str) (own : List Nat) : List (Str × Nat) := own.map fun i => (N.getD i "", i)
def ok (c : Chk) : Ex → Md → Scope → List Expr → Bool
  | .var i, m, sc, es => single m es fun e => match vName e with
    | some x => decide (c.N[i]? = some x) && visB sc x && notDbg x
    | none => false
  | .int i, m, _, es => single m es fun e => decide (vCst e = some (.int i))
  | .bl b, m, _, es => single m es fun e => decide (vCst e = some (.bool b))
  | .non, m, _, es => single m es fun e => decide (vCst e = some .none)
  | .str x, m, _, es => single m es fun e => decide (vCst e = some (.str x))
  | .nil, m, _, es => (match m, es with
    | .a, [] => true
    | .k, [] => true
    | .d [], [] => true
    | _, _ => false)
  | .cons a as, m, sc, es => (match m, es with
    | .a, e :: es => noStar e && (ok c a .e sc [e] && ok c as .a sc es)
    | .k, e :: es => ok c a .e sc [e] && ok c as .k sc es
    | .d (_ :: ks), e :: es => ok c a .e sc [e] && ok c as (.d ks) sc es
    | _, _ => false)
  | .tup as, m, sc, es => single m es fun e => match vTup e with
    | some es => ok c as .a sc es
    | none => false
  | .disp as, m, sc, es => single m es fun e => match vLst e with
    | some es => ok c as .a sc es
    | none => false
  | .ddisp ks as, m, sc, es => single m es fun e => match vDict e with
    | some (keys, vals) => decide (keysAre keys = some ks) && decide ks.Nodup && decide (ks.length ≤ 15) && !ks.isEmpty && ok c as (.d ks) sc vals
    | none => false
  | .bin op a b, m, sc, es => single m es fun e => match vBin e with
    | some (x, o, y) => decide (o = op.py) && (ok c a .e sc [x] && ok c b .e sc [y])
    | none => false
  | .neg a, m, sc, es => single m es fun e => match vUn e with
    | some (.USub, x) => ok c a .e sc [x]
    | _ => false
  | .not a, m, sc, es => (match m, es with
    | .e, [e] => (match vUn e with
      | some (.Not, x) => ok c a .e sc [x]
      | _ => false)
    | .t, [e] => (match vUn e with
      | some (.Not, x) => ok c a .t sc [x]
      | _ => false)
    | _, _ => false)
  | .cmp op a b, m, sc, es => dual m es fun e => match vCmp e with
    | some (x, [o], [y]) => decide (o = op.py) && cmpPlain op && (ok c a .e sc [x] && ok c b .e sc [y])
    | _ => false
  | .chain o1 o2 a b d, m, sc, es => dual m es fun e => match vCmp e with
    | some (x, [p, q], [y, z]) => decide (p = o1.py) && decide (q = o2.py) && cmpPlain o1 && cmpPlain o2 && (ok c a .e sc [x] && (ok c b .e sc [y] && ok c d .e sc [z]))
    | _ => false
  | .same neg a b cs, m, sc, es => dual m es fun e => match vCmp e with
    | some (x, [o], [y]) => decide (o = if neg then .NotEq else .Eq) && (cs.all fun d => decide (d ∈ c.T.idq)) && (ok c a .e sc [x] && ok c b .e sc [y])
    | _ => false
  | .inx neg a b, m, sc, es => dual m es fun e => match vCmp e with
    | some (x, [o], [y]) => decide (o = if neg then .NotIn else .In) && noSet y && (ok c a .e sc [x] && ok c b .e sc [y])
    | _ => false
  | .and a b, m, sc, es => (match es with
    | [e] => (match vBool e with
      | some (.And, x :: y :: rest, p) => (match m with
        | .e => ok c a .e sc [x] && ok c b .e sc (match rest with | [] => [y] | _ => [.BoolOp .And (y :: rest) p])
        | .t => ok c a .t sc [x] && ok c b .t sc (match rest with | [] => [y] | _ => [.BoolOp .And (y :: rest) p])
        | _ => false)
      | _ => false)
    | _ => false)
  | .or a b, m, sc, es => (match es with
    | [e] => (match vBool e with
      | some (.Or, x :: y :: rest, p) => (match m with
        | .e => ok c a .e sc [x] && ok c b .e sc (match rest with | [] => [y] | _ => [.BoolOp .Or (y :: rest) p])
        | .t => ok c a .t sc [x] && ok c b .t sc (match rest with | [] => [y] | _ => [.BoolOp .Or (y :: rest) p])
        | _ => false)
      | _ => false)
    | _ => false)
  | .ite t a b, m, sc, es => single m es fun e => match vIf e with
    | some (z, x, y) => ok c t .t sc [z] && (ok c a .e sc [x] && ok c b .e sc [y])
    | none => false
  | .idx a i, m, sc, es => single m es fun e => match vSub e with
    | some (x, y) => noSlice y && (ok c a .e sc [x] && ok c i .e sc [y])
    | none => false
  | .attr a f cs, m, sc, es => single m es fun e => match vAttr e with
    | some (x, g) => decide (f = g) && noSuper x && (cs.all fun d => decide (d < c.T.cn.length) && decide ((d, f) ∈ c.T.na)) && ok c a .e sc [x]
    | none => false
  | .len i, m, sc, es => single m es fun e => match vCall e with
    | some (f, [y], []) => decide (f = "len") && glB sc "len" && decide (("len" : Str) ∈ c.bn) && (match vName y with
      | some x => decide (c.N[i]? = some x) && visB sc x && notDbg x
      | none => false)
    | _ => false
  | .call g as, m, sc, es => single m es fun e => match vCall e with
    | some (x, es, []) => decide (c.gn[g]? = some x) && decide (x ≠ "") && decide (g < c.ng) && okCall c sc x es && ok c as .a sc es
    | _ => false
  | .newx cl g pm as, m, sc, es => single m es fun e => match vCall e with
    | some (x, es, ks) => decide (c.T.cn[cl]? = some x) && okCall c sc x es && (match g with
      | none => decide (cl ∈ c.T.mk0) && es.isEmpty && ks.isEmpty && pm.isEmpty && ok c as .a sc es
      | some g => decide ((cl, g) ∈ c.T.mkf) && decide (g < c.ng) && (match pm with
        | [] => ks.isEmpty && ok c as .a sc es
        | pm => es.isEmpty && (match kwNames ks with
          | some names => decide ((cl, names, pm) ∈ c.T.kws) && ok c as .k sc (ks.map (·.value))
          | none => false)))
    | none => false
  | .toc a, m, sc, es => single m es fun e => ok c a .e sc [e]
  | .bi b as, m, sc, es => single m es fun e => match vCall e with
    | some (x, es, []) => decide (x = b.nm) && decide (x ∈ c.bn) && okCall c sc x es && !es.isEmpty && ok c as .a sc es
    | _ => false
  | .isi a ts cs, m, sc, es => single m es fun e => match vCall e with
    | some (x, [y, z], []) => decide (x = "isinstance") && decide (x ∈ c.bn) && okCall c sc x [y, z] && isOkB c.T ts cs && ok c a .e sc [y] && (match vTup z with
      | none => (match ts with
        | [t] => tyName c.T c.bn sc t z
        | _ => false)
      | some zs => decide (ts.length ≤ 1000) && zs.all noStar && tyNames c.T c.bn sc ts zs)
    | _ => false
  | .comp own t it cc el, m, sc, es => single m es fun e => match vComp e with
    | some (ele, tg, iter, fs, scope) => blkC c.N sc scope (ownN c.N own) && okT c.N scope (fun x => scope.names.lookup x == some .cell) t tg && (t.slots.all fun i => decide (i ∈ own)) && noSet iter && (ok c it (.i (isTupE tg)) sc [iter] &&
      ((match fs with
        | [] => isYes cc
        | [f] => ok c cc .t (relS scope sc) [f]
        | _ => false) && ok c el .e (relS scope sc) [ele]))
    | none => false
  | .yes, _, _, _ => false
  | .rng a b, m, sc, es => (match m, es with
    | .i _, [e] => (match vCall e with
      | some (x, [y], []) => decide (x = "range") && decide (x ∈ c.bn) && okCall c sc x [y] && (match a with | .int 0 => true | _ => false) && ok c b .e sc [y]
      | some (x, [y, z], []) => decide (x = "range") && decide (x ∈ c.bn) && okCall c sc x [y, z] && (ok c a .e sc [y] && ok c b .e sc [z])
      | _ => false)
    | _, _ => false)
  | .enu _, _, _, _ => false
  | .zip _ _, _, _, _ => false

/-- the values of a dict display: under any entry -/
def bW (L : Lk) (W : XK) (G : List Fn) (x : Ex) : TE := fun σ H Q => ∃ P1, P1.L = L ∧ tE P1 W G x σ H Q
def trsOf (L : Lk) (W : XK) (G : List Fn) : List Str → Ex → List (TE × TE)
  | k :: ks, .cons a as => (tC (.str k), bW L W G a) :: trsOf L W G ks as
  | _, _ => []
def dShape : List Str → Ex → Bool
  | [], .nil => true
  | _ :: ks, .cons _ as => dShape ks as
  | _, _ => false
/-- what the checker's yes means -/
def Holds (m : Md) (X : Cx) (P : Pm) (W : XK) (G : List Fn) (x : Ex) (es : List Expr) : Prop := match m with
  | .e => ∃ e, es = [e] ∧ PE X e (tE P W G x)
  | .a => PA X es (tA P W G x)
  | .k => ∀ kws : List Keyword, kws.map (·.value) = es → PK X kws (tA P W G x) ∧ ∀ en ds e1, toA (ev G x en) = .ok ds e1 → ds.length = kws.length
  | .t => ∃ e, es = [e] ∧ PT X e (tT P W G x) ∧ (isB e = true → PW X e (tT P W G x))
  | .d ks => dShape ks x = true ∧ ∀ keys, keysAre keys = some ks → es.length = ks.length ∧ ∀ pos, PPs X pos keys es (trsOf P.L W G ks x)
  | .i tup => ∃ e, es = [e] ∧ noSet e = true ∧ ∀ tg, (tup = true → ∃ elts kk tpos, tg = .Tuple elts kk tpos) → PI X tg e (iI P W G x)
section
variable {X : Cx} {P : Pm} {W : XK} {G : List Fn} {sc : Scope} {k : Nat} {x : Ex} {m : Md} {es : List Expr} {N gn bn : List Str} {T : ClsT}
theorem valTest_noB {e : Expr} (h : valTest e = true) : isB e = false := by
  cases e <;> first | rfl | cases h
theorem single_ok (C : Cxt X P N sc W G gn bn k T) {f : Expr → Bool} (h : single m es f = true) (hf : ∀ e, f e = true → PE X e (tE P W G x)) : Holds m X P W G x es := by
  unfold single at h
  split at h
  · rename_i e
    cases m with
    | e => exact ⟨e, rfl, hf e h⟩
    | t =>
      have h : (valTest e && f e) = true := h
      rw [Bool.and_eq_true] at h
      exact ⟨e, rfl, snd_val (hf e h.2) (valIx h.1), fun hb => by rw [valTest_noB h.1] at hb; cases hb⟩
    | i tup =>
      have h : (noSet e && f e) = true := h
      rw [Bool.and_eq_true] at h
      exact ⟨e, rfl, h.1, fun tg _ => snd_seq C (hf e h.2)⟩
    | a => cases h
    | k => cases h
    | d ks => cases h
  · cases h
theorem dual_ok {f : Expr → Bool} (h : dual m es f = true) (hf : ∀ e, f e = true → PE X e (tE P W G x) ∧ PT X e (tT P W G x) ∧ isB e = false) : Holds m X P W G x es := by
  unfold dual at h
  split at h
  · rename_i e
    cases m with
    | e => exact ⟨e, rfl, (hf e h).1⟩
    | t => exact ⟨e, rfl, (hf e h).2.1, fun hb => by rw [(hf e h).2.2] at hb; cases hb⟩
    | i tup => cases h
    | a => cases h
    | k => cases h
    | d ks => cases h
  · cases h
theorem holdsE {e : Expr} (h : Holds .e X P W G x [e]) : PE X e (tE P W G x) := by
  obtain ⟨e', h1, h2⟩ := h
  cases h1
  exact h2
theorem holdsT {e : Expr} (h : Holds .t X P W G x [e]) : PT X e (tT P W G x) ∧ (isB e = true → PW X e (tT P W G x)) := by
  obtain ⟨e', h1, h2⟩ := h
  cases h1
  exact h2
theorem holdsI {e : Expr} {tup : Bool} (h : Holds (.i tup) X P W G x [e]) : noSet e = true ∧ ∀ tg, (tup = true → ∃ elts kk tpos, tg = .Tuple elts kk tpos) → PI X tg e (iI P W G x) := by
  obtain ⟨e', h1, h2⟩ := h
  cases h1
  exact h2
theorem dbg_of {x : Str} (h : notDbg x = true) : (x == ("__debug__" : Str)) = false ∧ (x == ("__classdict__" : Str)) = false := by
  unfold notDbg at h
  rw [Bool.and_eq_true] at h
  exact ⟨of_decide_eq_true h.1, of_decide_eq_true h.2⟩
theorem Cxt.withP (C : Cxt X P N sc W G gn bn k T) {P1 : Pm} (hL : P1.L = P.L) : Cxt X P1 N sc W G gn bn k T := by
  refine ⟨by rw [hL]; exact C.hK, C.n, C.nd, C.scp, C.calm, C.tk, C.room, C.grd, C.bfree, ?_, ?_⟩
  · rw [hL]; exact C.fns
  · rw [hL]; exact C.ct
/-- a block's context -/
theorem Cxt.blk (C : Cxt X P N sc W G gn bn k T) {P1 : Pm} (hL : P1.L = P.L) (s : Shared) (H : Hp) (scope : Scope) (Ca : Addr) (cl : List (Str × Addr)) (fp : List Addr) :
    Cxt (X.blk s H scope (compEnvC scope cl Ca X.env) fp) P1 N (relS scope sc) gFal G gn bn k T := by
  refine ⟨by rw [hL]; exact C.hK, C.n, C.nd, ?_, C.calm, fun u s' x => ?_, C.room, C.grd, C.bfree, fun g f x a b d => ?_, ?_⟩
  · show relS scope X.env.scope = relS scope sc
    rw [C.scp]
  · obtain ⟨_, _, _, _, _, _, _, _, _, _, _, _, _, _, _, _, w⟩ := x
    exact w.elim
  · rw [hL]
    exact ⟨(C.fns g f x a b d).there⟩
  · rw [hL]
    exact ⟨C.ct.cls, C.ct.noat, C.ct.iss, C.ct.idq, C.ct.mk0, C.ct.mkf, C.ct.sysd⟩
end
end Ev

set_option Elab.async false
set_option linter.all false
set_option maxRecDepth 100000
set_option maxHeartbeats 4000000
namespace Ev
open PySem PySem.Spec PyProof.Rows L2

/-! ### targets -/
theorem each_one {e : Expr} (h : noStar e = true) (es : List Expr) (env : PySem.Env) : assignEach (e :: es) env = (false, assign e env) :: assignEach es env := by
  cases e <;> first | rfl | cases h
theorem okT_star {N : List Str} {sc : Scope} {fk : Str → Bool} {t : Tg} {e : Expr} (h : okT N sc fk t e = true) : noStar e = true := by
  cases t with
  | v i =>
    simp only [okT] at h
    cases hv : vName e with
    | some x => obtain ⟨p, rfl⟩ := vName_ok hv; rfl
    | none => rw [hv] at h; cases h
  | tup ts =>
    simp only [okT] at h
    cases hv : vTup e with
    | some x => obtain ⟨j, p, rfl⟩ := vTup_ok hv; rfl
    | none => rw [hv] at h; cases h
  | lst ts =>
    simp only [okT] at h
    cases hv : vTup e with
    | some x => obtain ⟨j, p, rfl⟩ := vTup_ok hv; rfl
    | none => rw [hv] at h; cases h
  | nil => simp [okT] at h
  | cons a b => simp [okT] at h
theorem each_len {N : List Str} {sc : Scope} {fk : Str → Bool} {env : PySem.Env} : ∀ {ts : Tg} {es : List Expr}, okTs N sc fk ts es = true → (assignEach es env).length = ts.size ∧ (assignEach es env).findIdx? (·.1) = none
  | .nil, [], _ => ⟨rfl, rfl⟩
  | .nil, _ :: _, h => by simp [okTs] at h
  | .cons t us, [], h => by simp [okTs] at h
  | .cons t us, e :: es, h => by
    simp only [okTs, Bool.and_eq_true] at h
    rw [each_one (okT_star h.1)]
    obtain ⟨a, b⟩ := each_len (env := env) h.2
    refine ⟨by rw [List.length_cons, a]; rfl, ?_⟩
    rw [List.findIdx?_cons]
    simp [b]
  | .v _, _, h => by simp [okTs] at h
  | .tup _, _, h => by simp [okTs] at h
  | .lst _, _, h => by simp [okTs] at h
section
variable {X : Cx} {N : List Str} {sc : Scope} {fk : Str → Bool}
mutual
theorem tg_ok (hN : X.N = N) (nd : N.Nodup) (hc : X.calm = true) (hl : ∀ x, (match sc.names.lookup x with
      | some .local => true
      | some .cell => fk x
      | _ => false) = true → L2.Loc X.env.scope x ∧ (X.fn x = true ∨ X.env.scope.names.lookup x = some .local)) : ∀ (t : Tg) {e : Expr}, okT N sc fk t e = true → PG X e (gOf X.K t)
  | .v i, e, h => by
    simp only [okT] at h
    cases hv : vName e with
    | none => rw [hv] at h; cases h
    | some x =>
      rw [hv] at h
      obtain ⟨p, rfl⟩ := vName_ok hv
      rw [Bool.and_eq_true] at h
      obtain ⟨a, b⟩ := hl x h.2
      exact pg_name (by rw [hN]; exact nd) (by rw [hN]; exact of_decide_eq_true h.1) a b
  | .tup ts, e, h => by
    simp only [okT] at h
    cases hv : vTup e with
    | none => rw [hv] at h; cases h
    | some es =>
      rw [hv] at h
      obtain ⟨j, p, rfl⟩ := vTup_ok hv
      obtain ⟨a, b⟩ := each_len (env := X.env) h
      exact pg_tup hc (tgs_ok hN nd hc hl ts h) a b
  | .lst ts, e, h => by
    simp only [okT] at h
    cases hv : vTup e with
    | none => rw [hv] at h; cases h
    | some es =>
      rw [hv] at h
      obtain ⟨j, p, rfl⟩ := vTup_ok hv
      obtain ⟨a, b⟩ := each_len (env := X.env) h
      exact pg_lst hc (tgs_ok hN nd hc hl ts h) a b
  | .nil, e, h => by simp [okT] at h
  | .cons _ _, e, h => by simp [okT] at h
theorem tgs_ok (hN : X.N = N) (nd : N.Nodup) (hc : X.calm = true) (hl : ∀ x, (match sc.names.lookup x with
      | some .local => true
      | some .cell => fk x
      | _ => false) = true → L2.Loc X.env.scope x ∧ (X.fn x = true ∨ X.env.scope.names.lookup x = some .local)) : ∀ (ts : Tg) {es : List Expr}, okTs N sc fk ts es = true → PGs X es (gsOf X.K ts)
  | .nil, [], _ => pgs_nil
  | .nil, _ :: _, h => by simp [okTs] at h
  | .cons t us, [], h => by simp [okTs] at h
  | .cons t us, e :: es, h => by
    simp only [okTs, Bool.and_eq_true] at h
    exact pgs_cons (tg_ok hN nd hc hl t h.1) (tgs_ok hN nd hc hl us h.2) (by rw [each_one (okT_star h.1)]; rfl)
  | .v _, _, h => by simp [okTs] at h
  | .tup _, _, h => by simp [okTs] at h
  | .lst _, _, h => by simp [okTs] at h
end
end

/-! ### a comprehension's parts -/
structure Parts (X : Cx) (P : Pm) (W : XK) (G : List Fn) (own : List Nat) (t : Tg) (it cc el : Ex) (ele tg iter : Expr) (fs : List Expr) (scope : Scope) : Prop where
  it : PI X tg iter (iI P W G it)
  blk : BlkOk X.N X.env.scope scope (ownN X.N own)
  tg : ∀ (s : Shared) (H : Hp) (C : Addr) (cl : List (Str × Addr)) (fp : List Addr), PG (X.blk s H scope (compEnvC scope cl C X.env) fp) tg (gOf X.K t)
  cc : ∀ (s : Shared) (H : Hp) (C : Addr) (cl : List (Str × Addr)) (fp : List Addr), PTs (X.blk s H scope (compEnvC scope cl C X.env) fp) fs (bT P.L G cc)
  el : ∀ (s : Shared) (H : Hp) (C : Addr) (cl : List (Str × Addr)) (fp : List Addr), PE (X.blk s H scope (compEnvC scope cl C X.env) fp) ele (bE P.L G el)
  set : noSet iter = true
  slots : ∀ i ∈ t.slots, i ∈ own
theorem PE_ex {X : Cx} {e : Expr} {α : Type} {r : α → Prop} {t : α → TE} (h : ∀ a, r a → PE X e (t a)) : PE X e (fun σ H Q => ∃ a, r a ∧ t a σ H Q) := ⟨fun pins s σ H Q I ⟨a, ra, q⟩ => (h a ra).run pins s σ H Q I q⟩
theorem PT_ex {X : Cx} {e : Expr} {α : Type} {r : α → Prop} {t : α → TT} (h : ∀ a, r a → PT X e (t a)) : PT X e (fun σ H Q => ∃ a, r a ∧ t a σ H Q) := ⟨fun pins s σ H Q I ⟨a, ra, q⟩ => (h a ra).run pins s σ H Q I q⟩
theorem PTs_imp {X : Cx} {e : List Expr} {t t' : TT} (h : PTs X e t) (i : ∀ σ H Q, t' σ H Q → t σ H Q) : PTs X e t' := ⟨fun pins s σ H Q I q => h.run pins s σ H Q I (i σ H Q q)⟩
theorem ownN_snd {N : List Str} (own : List Nat) : (ownN N own).map (·.2) = own := by
  unfold ownN
  rw [List.map_map]
  exact List.map_id own
theorem PE_lc {X : Cx} {P : Pm} {N : List Str} {sc : Scope} {W : XK} {G : List Fn} {gn bn : List Str} {k : Nat} {T : ClsT} (C : Cxt X P N sc W G gn bn k T) {own : List Nat} {t : Tg} {it cc el : Ex} {ele tg iter : Expr} {fs : List Expr} {scope : Scope} {pos : Pos}
    (p : Parts X P W G own t it cc el ele tg iter fs scope) : PE X (.ListComp ele [⟨tg, iter, fs, 0⟩] scope pos) (tE P W G (.comp own t it cc el)) := by
  refine PE_imp (pe_lc C.calm (by rw [C.n]; exact C.nd) p.it p.blk p.tg p.cc p.el (fun x => setIx p.set x)) fun σ H Q h => ?_
  rw [ownN_snd]
  exact lc_of C p.slots h
end Ev

set_option Elab.async false
set_option linter.all false
set_option maxRecDepth 100000
set_option maxHeartbeats 8000000
namespace Ev
open PySem PySem.Spec PyProof.Rows L2

theorem and2 {a b : Bool} (h : (a && b) = true) : a = true ∧ b = true := Bool.and_eq_true_iff.mp h
section
variable {X : Cx} {P : Pm} {W : XK} {G : List Fn} {sc : Scope} {k : Nat} {c : Chk}
theorem snd_sameT (C : Cxt X P c.N sc W G c.gn c.bn k c.T) {neg : Bool} {cs : List Nat} (hcs : ∀ d ∈ cs, d ∈ c.T.idq) {a b : Expr} {pos : Pos} {xa xb : Ex} (ha : PE X a (tE P W G xa)) (hb : PE X b (tE P W G xb)) :
    PT X (.Compare a [if neg then .NotEq else .Eq] [b] pos) (tT P W G (.same neg xa xb cs)) := by
  refine PT_imp (pt_cmpR (op_same C hcs neg) ha hb (nobehind b (by cases neg <;> simp) (by cases neg <;> simp))) fun σ H Q ⟨w, en, R, p⟩ => ?_
  have p : PostG P W σ w (toD ((toD (ev G xa en)).bind fun x e1 => (toD (ev G xb e1)).bind fun y e2 => .opt ((sameD x y cs e2.s).map fun k => .v (.bl (if neg then !k else k))) e2)) _ := p
  rw [toD_bind] at p
  refine ⟨w, en, R, (PostG.useD p).imp fun w1 H1 e1 sv le R1 q v Tt => ?_⟩
  obtain ⟨w2, d, le2, R2, r, q⟩ := q v Tt
  rw [toD_bind] at q
  refine ⟨w2, e1, R2, (PostG.useD q).imp fun w3 H3 e3 sv3 le3 R3 q3 v3 T3 => ?_⟩
  obtain ⟨w4, d2, le4, R4, r2, q4⟩ := q3 v3 T3
  cases e : sameD d d2 cs e3.s with
  | none => rw [e] at q4; exact q4.elim
  | some z =>
    rw [e] at q4
    obtain ⟨b', eb, q4⟩ := q4.to rfl R4
    cases eb
    exact ⟨σ, w4, e3, d, d2, z, R4, r.up (le3.trans le4), r2, e, _, rfl, q4⟩
theorem snd_inxT (C : Cxt X P c.N sc W G c.gn c.bn k c.T) {neg : Bool} {a b : Expr} {pos : Pos} {xa xb : Ex} (ha : PE X a (tE P W G xa)) (hb : PE X b (tE P W G xb)) (hm : behindInMarks (if neg then .NotIn else .In) b = false) :
    PT X (.Compare a [if neg then .NotIn else .In] [b] pos) (tT P W G (.inx neg xa xb)) := by
  refine PT_imp (pt_cmpR (op_inA C neg) ha hb hm) fun σ H Q ⟨w, en, R, p⟩ => ?_
  have p : PostG P W σ w (toD ((toD (ev G xa en)).bind fun x e1 => (toD (ev G xb e1)).bind fun y e2 => .opt ((inD x y e2.s).map fun k => .v (.bl (if neg then !k else k))) e2)) _ := p
  rw [toD_bind] at p
  refine ⟨w, en, R, (PostG.useD p).imp fun w1 H1 e1 sv le R1 q v Tt => ?_⟩
  obtain ⟨w2, d, le2, R2, r, q⟩ := q v Tt
  rw [toD_bind] at q
  refine ⟨w2, e1, R2, (PostG.useD q).imp fun w3 H3 e3 sv3 le3 R3 q3 v3 T3 => ?_⟩
  obtain ⟨w4, d2, le4, R4, r2, q4⟩ := q3 v3 T3
  cases e : inD d d2 e3.s with
  | none => rw [e] at q4; exact q4.elim
  | some z =>
    rw [e] at q4
    obtain ⟨b', eb, q4⟩ := q4.to rfl R4
    cases eb
    exact ⟨σ, w4, e3, d, d2, z, R4, r.up (le3.trans le4), r2, e, _, rfl, q4⟩
theorem noset_in {neg : Bool} {b : Expr} (h : noSet b = true) : behindInMarks (if neg then .NotIn else .In) b = false := by
  cases b <;> first | rfl | cases h
theorem noset_last {o1 o2 : CmpOp} {b e : Expr} (h : o2 ≠ .In ∧ o2 ≠ .NotIn) : lastMarks [o1, o2] [b, e] = false := by
  show behindInMarks o2 e = false
  exact nobehind e h.1 h.2
theorem cop_in {o : Cop} (h : cmpPlain o = true) : o.py ≠ .In ∧ o.py ≠ .NotIn := by
  cases o <;> first | exact ⟨by decide, by decide⟩ | cases h
theorem call_of (C : Cxt X P c.N sc W G c.gn c.bn k c.T) {x : Str} {es : List Expr} (h : okCall c sc x es = true) : Gl X x ∧ (x == ("__debug__" : Str)) = false ∧ es.all noStar = true := by
  unfold okCall at h
  obtain ⟨h, h3⟩ := and2 h
  obtain ⟨h1, h2⟩ := and2 h
  exact ⟨gl_of C.scp h1, (dbg_of h2).1, h3⟩
theorem all_cons {e : Expr} {es : List Expr} (h : (e :: es).all noStar = true) : noStar e = true ∧ es.all noStar = true := by
  rw [List.all_cons] at h
  exact and2 h
theorem tyName_ok (C : Cxt X P c.N sc W G c.gn c.bn k c.T) {t : Ty} {e : Expr} (h : tyName c.T c.bn sc t e = true) : PE X e (tC (t.vv P.L)) := by
  have bt : ∀ {t : Ty}, t.nc = true → t ≠ .none → (match vName e with
    | some x => decide (x = Str.ofString t.tn) && glB sc x && decide (x ∈ c.bn)
    | none => false) = true → PE X e (tC (.ty t.tn)) := fun {t} h1 hn hh => by
    cases hv : vName e with
    | none => rw [hv] at hh; cases hh
    | some x =>
      rw [hv] at hh
      obtain ⟨hh, h3⟩ := and2 hh
      obtain ⟨h2, h4⟩ := and2 hh
      obtain ⟨p, rfl⟩ := vName_ok hv
      have ex : x = Str.ofString t.tn := of_decide_eq_true h2
      have hm := C.bfree x (of_decide_eq_true h3)
      have hg := gl_of C.scp h4
      subst ex
      refine pe_bltn (u := .type t.tn) hg hm ?_ rfl ?_ ?_
      · cases t <;> first | decide +kernel | (cases h1; done) | exact absurd rfl hn
      · cases t <;> first | decide | (cases h1; done)
      · cases t <;> first | decide | (cases h1; done)
  cases t with
  | cls d =>
    have hh : (match vName e, c.T.cn[d]? with
      | some x, some y => decide (x = y) && glB sc x && decide (x ≠ "__debug__")
      | _, _ => false) = true := h
    cases hv : vName e with
    | none => rw [hv] at hh; cases hh
    | some x =>
      rw [hv] at hh
      cases hy : c.T.cn[d]? with
      | none => rw [hy] at hh; cases hh
      | some y =>
        rw [hy] at hh
        obtain ⟨hh, h3⟩ := and2 hh
        obtain ⟨h1, h2⟩ := and2 hh
        have ee : x = y := of_decide_eq_true h1
        subst ee
        obtain ⟨p, rfl⟩ := vName_ok hv
        exact pe_glob (gl_of C.scp h2) (C.ct.cls d x hy).2 rfl (beq_eq_false_iff_ne.mpr (of_decide_eq_true h3))
  | none => cases h
  | int => exact bt (t := .int) rfl (by decide) h
  | bool => exact bt (t := .bool) rfl (by decide) h
  | str => exact bt (t := .str) rfl (by decide) h
  | tuple => exact bt (t := .tuple) rfl (by decide) h
  | list => exact bt (t := .list) rfl (by decide) h
  | dict => exact bt (t := .dict) rfl (by decide) h
theorem tyNames_ok (C : Cxt X P c.N sc W G c.gn c.bn k c.T) : ∀ {ts : List Ty} {es : List Expr}, es.all noStar = true → tyNames c.T c.bn sc ts es = true → ∃ te, PA X es te ∧ ∀ σ H Q, Q (ts.map fun t => t.vv P.L) H → te σ H Q
  | [], [], _, _ => ⟨_, pa_nil, fun _ _ _ q => q⟩
  | t :: ts, e :: es, hs, h => by
    obtain ⟨h1, h2⟩ := and2 (show (tyName c.T c.bn sc t e && tyNames c.T c.bn sc ts es) = true from h)
    obtain ⟨s1, s2⟩ := all_cons hs
    obtain ⟨te, a, b⟩ := tyNames_ok C s2 h2
    exact ⟨_, pa_cons (tyName_ok C h1) a (star_one s1 es X.env), fun σ H Q q => b σ H (fun vs H' => Q (t.vv P.L :: vs) H') q⟩
  | [], _ :: _, _, h => by cases h
  | _ :: _, [], _, h => by cases h
theorem kw_cons {a as : Ex} {e : Expr} {es : List Expr} (ha : PE X e (tE P W G a)) (hs : ∀ kws : List Keyword, kws.map (·.value) = es → PK X kws (tA P W G as) ∧ ∀ en ds e1, toA (ev G as en) = .ok ds e1 → ds.length = kws.length) (kws : List Keyword) (h : kws.map (·.value) = e :: es) :
    PK X kws (tA P W G (.cons a as)) ∧ ∀ en ds e1, toA (ev G (.cons a as) en) = .ok ds e1 → ds.length = kws.length := by
  cases kws with
  | nil => cases h
  | cons kw kws =>
    obtain ⟨nm, v, p⟩ := kw
    injection h with h1 h2
    have h1 : v = e := h1
    subst h1
    obtain ⟨b1, b2⟩ := hs kws h2
    refine ⟨⟨fun pos pins s σ H Q I ⟨w, en, R, q⟩ => ?_⟩, fun en ds e1 he => ?_⟩
    · rw [toA_cons] at q
      refine (pk_cons ha b1).run pos pins s σ H Q I ⟨w, en, R, q.useD.imp fun w1 H1 e1 sv le R1 q v T => ?_⟩
      obtain ⟨w', d, le', R', r, q⟩ := q v T
      refine ⟨w', e1, R', q.bind.imp fun w2 H2 e2 ds le2 R2 q2 vs rs => ?_⟩
      exact q2.at R2 (v :: vs) (.cons (r.up le2) rs)
    · rw [toA_cons] at he
      cases e1' : toD (ev G a en) with
      | err y S => rw [e1'] at he; cases he
      | bad => rw [e1'] at he; cases he
      | ok d e2 =>
        rw [e1', Res.bind_ok] at he
        cases e3 : toA (ev G as e2) with
        | err y S => rw [e3] at he; cases he
        | bad => rw [e3] at he; cases he
        | ok ds' e4 =>
          rw [e3] at he
          cases he
          rw [List.length_cons, List.length_cons, b2 e2 ds' _ e3]
theorem kw_nil (kws : List Keyword) (h : kws.map (·.value) = []) : PK X kws (tA P W G .nil) ∧ ∀ en ds e1, toA (ev G .nil en) = .ok ds e1 → ds.length = kws.length := by
  cases kws with
  | nil => exact ⟨⟨fun pos pins s σ H Q I ⟨w, en, R, q⟩ => (pk_nil (X := X)).run pos pins s σ H Q I ((q : PostG P W σ w (.ok [] en) _) w H (.refl w) R [] .nil)⟩, fun en ds e1 he => by cases he; rfl⟩
  | cons _ _ => cases h
theorem keysAre_len : ∀ {keys : List (Option Expr)} {ks : List Str}, keysAre keys = some ks → keys.length = ks.length ∧ keys.all (·.isSome) = true
  | [], ks, h => by cases h; exact ⟨rfl, rfl⟩
  | some (.Constant (.str z) j p) :: r, ks, h => by
    have h1 : (keysAre r).map (fun ks => z :: ks) = some ks := h
    simp only [Option.map_eq_some_iff] at h1
    obtain ⟨ks', h2, e2⟩ := h1
    subst e2
    obtain ⟨a, b⟩ := keysAre_len h2
    exact ⟨by rw [List.length_cons, List.length_cons, a], by rw [List.all_cons, b]; rfl⟩
  | none :: r, ks, h => by cases h
  | some e :: r, ks, h => by
    unfold keysAre at h
    split at h
    · rename_i heq; cases heq
    · rename_i z j p r' heq
      injection heq with h1 h2
      subst h2
      simp only [Option.map_eq_some_iff] at h
      obtain ⟨ks', h3, e2⟩ := h
      subst e2
      obtain ⟨a, b⟩ := keysAre_len h3
      exact ⟨by rw [List.length_cons, List.length_cons, a], by rw [List.all_cons, b]; rfl⟩
    · cases h
theorem d_nil (keys : List (Option Expr)) (h : keysAre keys = some []) : ([] : List Expr).length = ([] : List Str).length ∧ ∀ pos, PPs X pos keys [] (trsOf P.L W G [] .nil) := by
  have := (keysAre_len h).1
  cases keys with
  | nil => exact ⟨rfl, fun pos => pps_nil⟩
  | cons _ _ => cases this
theorem keysAre_cons {keys : List (Option Expr)} {z : Str} {ks : List Str} (h : keysAre keys = some (z :: ks)) : ∃ j p r, keys = some (.Constant (.str z) j p) :: r ∧ keysAre r = some ks := by
  unfold keysAre at h
  split at h
  · cases h
  · simp only [Option.map_eq_some_iff] at h
    obtain ⟨ks', h3, e2⟩ := h
    injection e2 with e3 e4
    subst e3 e4
    exact ⟨_, _, _, rfl, h3⟩
  · cases h
/-- the pairs, one behind another -/
theorem pairs_at {P1 : Pm} (hL : P1.L = P.L) {σ : L2.St} : ∀ (ks : List Str) (as : Ex) {w : Wd} {H : Hp} {en : Env} {Q : List (V × V) → Hp → Prop} {K : Wd → Hp → Env → List D → Prop}, dShape ks as = true → Rep P1 w H σ en → PostG P1 W σ w (toA (ev G as en)) K →
    (∀ w' H' en' vs ds, w.le w' → Rep P1 w' H' σ en' → DRsw P1.L w' vs ds → vs.length = ks.length → K w' H' en' ds → Q ((ks.map V.str).zip vs) H') → tPairs (trsOf P.L W G ks as) σ H Q
  | [], .nil, w, H, en, Q, K, hs, R, p, q => by
    have p : PostG P1 W σ w (Res.ok ([] : List D) en) K := p
    exact q w H en [] [] (.refl w) R .nil rfl (p.at R)
  | k :: ks, .cons a as, w, H, en, Q, K, hs, R, p, q => by
    rw [toA_cons] at p
    show bW P.L W G a σ H fun y H2 => tPairs (trsOf P.L W G ks as) σ H2 fun ps H3 => Q ((V.str k, y) :: ps) H3
    refine ⟨P1, hL, w, en, R, p.useD.imp fun w1 H1 e1 sv le R1 p1 v T => ?_⟩
    obtain ⟨w2, d, le2, R2, r, p2⟩ := p1 v T
    refine pairs_at hL ks as hs R2 p2.bind fun w3 H3 e3 vs ds le3 R3 rs hl p3 => ?_
    exact q w3 H3 e3 (v :: vs) (d :: ds) ((le.trans le2).trans le3) R3 (.cons (r.up le3) rs) (by rw [List.length_cons, List.length_cons, hl]) (p3.at R3)
  | [], .var _, _, _, _, _, _, hs, _, _, _ => by cases hs
  | [], .cons _ _, _, _, _, _, _, hs, _, _, _ => by cases hs
  | _ :: _, .nil, _, _, _, _, _, hs, _, _, _ => by cases hs
  | _ :: _, .var _, _, _, _, _, _, hs, _, _, _ => by cases hs
  | ks, .int _, _, _, _, _, _, hs, _, _, _ | ks, .bl _, _, _, _, _, _, hs, _, _, _ | ks, .non, _, _, _, _, _, hs, _, _, _ | ks, .str _, _, _, _, _, _, hs, _, _, _ | ks, .tup _, _, _, _, _, _, hs, _, _, _ | ks, .disp _, _, _, _, _, _, hs, _, _, _
  | ks, .ddisp _ _, _, _, _, _, _, hs, _, _, _ | ks, .bin _ _ _, _, _, _, _, _, hs, _, _, _ | ks, .neg _, _, _, _, _, _, hs, _, _, _ | ks, .not _, _, _, _, _, _, hs, _, _, _ | ks, .cmp _ _ _, _, _, _, _, _, hs, _, _, _ | ks, .chain _ _ _ _ _, _, _, _, _, _, hs, _, _, _
  | ks, .and _ _, _, _, _, _, _, hs, _, _, _ | ks, .or _ _, _, _, _, _, _, hs, _, _, _ | ks, .ite _ _ _, _, _, _, _, _, hs, _, _, _ | ks, .idx _ _, _, _, _, _, _, hs, _, _, _ | ks, .attr _ _ _, _, _, _, _, _, hs, _, _, _ | ks, .len _, _, _, _, _, _, hs, _, _, _
  | ks, .call _ _, _, _, _, _, _, hs, _, _, _ | ks, .newx _ _ _ _, _, _, _, _, _, hs, _, _, _ | ks, .toc _, _, _, _, _, _, hs, _, _, _ | ks, .same _ _ _ _, _, _, _, _, _, hs, _, _, _ | ks, .inx _ _ _, _, _, _, _, _, hs, _, _, _ | ks, .bi _ _, _, _, _, _, _, hs, _, _, _
  | ks, .isi _ _ _, _, _, _, _, _, hs, _, _, _ | ks, .comp _ _ _ _ _, _, _, _, _, _, hs, _, _, _ | ks, .yes, _, _, _, _, _, hs, _, _, _ | ks, .rng _ _, _, _, _, _, _, hs, _, _, _ | ks, .enu _, _, _, _, _, _, hs, _, _, _ | ks, .zip _ _, _, _, _, _, _, hs, _, _, _ => by cases ks <;> cases hs
/-- into the protection of one more object -/
theorem PostG.inn {α : Type} {σ : L2.St} {w : Wd} {H : Hp} {en : Env} {a : Addr} {o : HO} (u : Out P w H σ en a o) (m0 : Mem P w H en.s) {R : Res Env α} {K : Wd → Hp → Env → α → Prop} (h : PostG P W σ w R K) :
    PostG (P.and a o) W σ w R fun w' H' en' x => Rep P w' H' σ en' ∧ Out P w' H' σ en' a o ∧ K w' H' en' x := by
  cases R with
  | ok x en' =>
    intro w' H' le R'
    obtain ⟨R2, u2⟩ := R'.out u m0
    exact ⟨R2, u2, h w' H' le R2⟩
  | err x S =>
    intro cls d w' H' le m rx
    have no : ∀ b, (P.and a o).H0 b = none → P.H0 b = none := fun b h => by
      by_cases q : b = a
      · subst q
        rw [show (P.and b o).H0 b = some o from upd_same] at h
        cases h
      · rw [show (P.and a o).H0 b = P.H0 b from upd_ne q] at h
        exact h
    refine h cls d w' H' le ⟨m.sub, m.f0, fun b ob hb hi => m.ent b ob ?_ hi, m.i0, fun b hb => (m.cn b hb).imp id (no b), m.fr, fun b ob hb => (m.fz b ob hb).imp id (no b), m.nd, m.len, m.cell⟩ rx
    rw [show (P.and a o).H0 b = P.H0 b from upd_ne fun q => by rw [q, u.h0] at hb; cases hb]
    exact hb
  | bad => exact h
theorem merge_nil : ∀ (kvs acc : List (Key × V)), (acc.map (·.1) ++ kvs.map (·.1)).Nodup → kvs.foldl (fun acc kv => L2.putK acc kv.1 kv.2) acc = acc ++ kvs
  | [], acc, _ => by simp
  | kv :: kvs, acc, h => by
    rw [List.foldl_cons]
    have hn : valV acc kv.1 = none := by
      have : kv.1 ∉ acc.map (·.1) := by
        intro hm
        rw [List.nodup_append] at h
        exact h.2.2 _ hm _ (by simp) rfl
      unfold valV
      rw [List.find?_eq_none.mpr fun x hx hk => this (by rw [← of_decide_eq_true hk]; exact List.mem_map_of_mem hx)]
      rfl
    rw [putK_new kv.2 hn, merge_nil kvs _ (by simpa using h)]
    simp
theorem zip_em : ∀ (ks : List Str) (vs : List V), ((ks.map V.str).zip vs) = ((ks.map Sum.inr).zip vs : List (Key × V)).map fun kv => (kV kv.1, kv.2)
  | [], _ => rfl
  | _ :: _, [] => rfl
  | z :: ks, v :: vs => congrArg (fun r => (V.str z, v) :: r) (zip_em ks vs)
theorem zip_len : ∀ (ks : List Str) (vs : List V), vs.length = ks.length → ((ks.map Sum.inr).zip vs : List (Key × V)).map (·.1) = ks.map Sum.inr ∧ ks.map D.str = ((ks.map Sum.inr).zip vs : List (Key × V)).map (fun p => kD p.1) ∧ ((ks.map Sum.inr).zip vs : List (Key × V)).map (·.2) = vs
  | [], [], _ => ⟨rfl, rfl, rfl⟩
  | _ :: _, [], h => by cases h
  | [], _ :: _, h => by cases h
  | z :: ks, v :: vs, h => by
    obtain ⟨a, b, c⟩ := zip_len ks vs (Nat.succ.inj h)
    exact ⟨congrArg (fun r => Sum.inr z :: r) a, congrArg (fun r => D.str z :: r) b, congrArg (fun r => v :: r) c⟩
theorem snd_ddisp (C : Cxt X P c.N sc W G c.gn c.bn k c.T) {ks : List Str} {as : Ex} {keys : List (Option Expr)} {vals : List Expr} {pos : Pos} (hs : dShape ks as = true) (hk : keysAre keys = some ks) (nd : ks.Nodup) (h15 : ks.length ≤ 15) (h0 : ks ≠ []) (hl : vals.length = ks.length)
    (hp : PPs X pos keys vals (trsOf P.L W G ks as)) : PE X (.Dict keys vals pos) (tE P W G (.ddisp ks as)) := by
  obtain ⟨k1, k2⟩ := keysAre_len hk
  refine PE_imp (pe_disp hp k2 (k1.trans hl.symm) (fun z => h0 (by rw [z] at k1; exact List.length_eq_zero_iff.mp k1.symm)) (by rw [k1]; exact h15)) fun σ H Q ⟨w, en, R, p⟩ => ?_
  intro a ha
  obtain ⟨n0, nI, nF⟩ := R.mem.no0 ha
  have nO := R.noOwn ha
  have R1 : Rep P w (upd H a (.dK [])) σ en := R.mono (.refl w) (R.mem.write n0 nI nF) (fun i b z => upd_ne fun q => nO i (by rw [← q]; exact z)) fun i b z => ⟨(R.own i b z).1, (R.own i b z).2.2⟩
  have u1 : Out P w (upd H a (.dK [])) σ en a (.dK []) := ⟨upd_same, n0, nI, nF, nO⟩
  have p := (PostG.bind (R := toA (ev G as en)) p).inn u1 R1.mem
  refine pairs_at (P1 := P.and a (.dK [])) rfl ks as hs (R1.inn u1) p fun w' H' en' vs ds le R' rs hlv ⟨R2, u2, q⟩ => ?_
  have q : PostG P W σ w' (if ds.length = ks.length then Res.ok (SV.od (ks.map .str) ds) en' else .bad) _ := q
  have hz : ds.length = ks.length := rs.length.symm.trans hlv
  rw [if_pos hz] at q
  have em := zip_em ks vs
  have el := zip_len ks vs hlv
  have nd2 : (([] : List (Key × V)).map (·.1) ++ (((ks.map Sum.inr).zip vs : List (Key × V))).map (·.1)).Nodup := by
    rw [List.map_nil, List.nil_append, el.1]
    exact nd.map Sum.inr fun a b h e => h (Sum.inr.inj e)
  refine ⟨u2.at_, _, em, by rw [List.length_zip, List.length_map, hlv]; omega, ?_⟩
  have em2 : mergeK [] ((ks.map Sum.inr).zip vs : List (Key × V)) = (ks.map Sum.inr).zip vs := by
    unfold mergeK
    rw [merge_nil _ _ nd2]
    rfl
  rw [em2]
  obtain ⟨R3, u3⟩ := R2.putOut u2 (.dK ((ks.map Sum.inr).zip vs))
  exact q.at R3 (.ref a) ⟨⟨a, _, rfl, upd_same, by rw [el.2.1], by rw [el.2.2]; exact rs⟩, fun _ b eb => by
    cases eb
    exact ⟨u3.nF, u3.h0, u3.nI, u3.nO⟩⟩
end
end Ev

set_option Elab.async false
set_option linter.all false
set_option maxRecDepth 100000
set_option maxHeartbeats 8000000
namespace Ev
open PySem PySem.Spec PyProof.Rows L2

section
variable {c : Chk} {G : List Fn}
/-- a comprehension's parts, from what is known of its pieces -/
theorem parts_ok {X : Cx} {P : Pm} {W : XK} {sc : Scope} {k : Nat} (C : Cxt X P c.N sc W G c.gn c.bn k c.T) {own : List Nat} {t : Tg} {it cc el : Ex} {ele tg iter : Expr} {fs : List Expr} {scope : Scope}
    (hit : ∀ {m : Md} {X : Cx} {P : Pm} {W : XK} {sc : Scope} {k : Nat} {es : List Expr}, Cxt X P c.N sc W G c.gn c.bn k c.T → ok c it m sc es = true → Holds m X P W G it es)
    (hcc : ∀ {m : Md} {X : Cx} {P : Pm} {W : XK} {sc : Scope} {k : Nat} {es : List Expr}, Cxt X P c.N sc W G c.gn c.bn k c.T → ok c cc m sc es = true → Holds m X P W G cc es)
    (hel : ∀ {m : Md} {X : Cx} {P : Pm} {W : XK} {sc : Scope} {k : Nat} {es : List Expr}, Cxt X P c.N sc W G c.gn c.bn k c.T → ok c el m sc es = true → Holds m X P W G el es)
    (h : (blkC c.N sc scope (ownN c.N own) && okT c.N scope (fun x => scope.names.lookup x == some .cell) t tg && (t.slots.all fun i => decide (i ∈ own)) && noSet iter && (ok c it (.i (isTupE tg)) sc [iter] &&
      ((match fs with
        | [] => isYes cc
        | [f] => ok c cc .t (relS scope sc) [f]
        | _ => false) && ok c el .e (relS scope sc) [ele]))) = true) : Parts X P W G own t it cc el ele tg iter fs scope := by
  obtain ⟨h, h5⟩ := and2 h
  obtain ⟨h5, h6⟩ := and2 h5
  obtain ⟨h6, h7⟩ := and2 h6
  obtain ⟨h, h4⟩ := and2 h
  obtain ⟨h, h3⟩ := and2 h
  obtain ⟨h1, h2⟩ := and2 h
  refine ⟨?_, ?_, fun s H Ca cl fp => ?_, fun s H Ca cl fp => ?_, fun s H Ca cl fp => ?_, h4, fun i hi => ?_⟩
  · refine (holdsI (hit C h5)).2 tg fun hb => ?_
    unfold isTupE at hb
    cases hv : vTup tg with
    | none => rw [hv] at hb; cases hb
    | some es =>
      obtain ⟨j, p, rfl⟩ := vTup_ok hv
      exact ⟨es, j, p, rfl⟩
  · rw [C.n, C.scp]
    exact blkOk_by h1
  · refine tg_ok (X := X.blk s H scope (compEnvC scope cl Ca X.env) fp) C.n C.nd C.calm (fun x hx => ?_) t h2
    have e : (X.blk s H scope (compEnvC scope cl Ca X.env) fp).env.scope = relS scope sc := by
      show relS scope X.env.scope = _
      rw [C.scp]
    rw [e]
    split at hx
    · rename_i e1
      exact ⟨loc_relS (.inl e1), .inr (lookup_relS_keep (by decide) e1)⟩
    · rename_i e1
      exact ⟨loc_relS (.inr e1), .inl hx⟩
    · cases hx
  · split at h6
    · have ey := isYes_ok h6
      subst ey
      refine PTs_imp pts_nil fun σ H Q ⟨P1, _, w, en, R, q⟩ => ?_
      have q : PostG P1 gFal σ w (Res.ok (D.bl true) en) _ := q
      obtain ⟨b, eb, q⟩ := q.to rfl R
      cases eb
      exact q
    · refine pts_one (PT_ex fun P1 hL => ?_)
      exact (holdsT (hcc (C.blk hL s H scope Ca cl fp) h6)).1
    · cases h6
  · refine PE_ex fun P1 hL => ?_
    exact snd_D (holdsE (hel (C.blk hL s H scope Ca cl fp) h7))
  · exact of_decide_eq_true (List.all_eq_true.mp h3 i hi)
end

theorem mas (c : Chk) (G : List Fn) (hng : c.ng = G.length) (x : Ex) : ∀ {m : Md} {X : Cx} {P : Pm} {W : XK} {sc : Scope} {k : Nat} {es : List Expr}, Cxt X P c.N sc W G c.gn c.bn k c.T → ok c x m sc es = true → Holds m X P W G x es := by
  induction x with
  | var i =>
    intro m X P W sc k es C h
    refine single_ok C h fun e he => ?_
    cases hv : vName e with
    | none => rw [hv] at he; cases he
    | some x =>
      rw [hv] at he
      obtain ⟨he, h3⟩ := and2 he
      obtain ⟨h1, h2⟩ := and2 he
      obtain ⟨p, rfl⟩ := vName_ok hv
      obtain ⟨d1, d2⟩ := dbg_of h3
      exact snd_var C (of_decide_eq_true h1) (vis_of h2) d1 d2
  | int i =>
    intro m X P W sc k es C h
    refine single_ok C h fun e he => ?_
    obtain ⟨j, p, rfl⟩ := vCst_ok (of_decide_eq_true he)
    exact snd_int
  | bl b =>
    intro m X P W sc k es C h
    refine single_ok C h fun e he => ?_
    obtain ⟨j, p, rfl⟩ := vCst_ok (of_decide_eq_true he)
    exact snd_bl
  | non =>
    intro m X P W sc k es C h
    refine single_ok C h fun e he => ?_
    obtain ⟨j, p, rfl⟩ := vCst_ok (of_decide_eq_true he)
    exact snd_non
  | str z =>
    intro m X P W sc k es C h
    refine single_ok C h fun e he => ?_
    obtain ⟨j, p, rfl⟩ := vCst_ok (of_decide_eq_true he)
    exact snd_str
  | nil =>
    intro m X P W sc k es C h
    cases m with
    | a => cases es with
      | nil => exact snd_nil
      | cons _ _ => cases h
    | k => cases es with
      | nil => exact fun kws hk => kw_nil kws hk
      | cons _ _ => cases h
    | d ks =>
      cases ks with
      | nil => cases es with
        | nil => exact ⟨rfl, fun keys hk => d_nil keys hk⟩
        | cons _ _ => cases h
      | cons _ _ => cases es <;> cases h
    | _ => cases h
  | cons a as iha ihs =>
    intro m X P W sc k es C h
    cases m with
    | a => cases es with
      | nil => cases h
      | cons e es =>
        obtain ⟨h1, h2⟩ := and2 (show (noStar e && (ok c a .e sc [e] && ok c as .a sc es)) = true from h)
        obtain ⟨h2, h3⟩ := and2 h2
        exact snd_cons (holdsE (iha C h2)) (ihs C h3) (star_one h1 es X.env)
    | k => cases es with
      | nil => cases h
      | cons e es =>
        obtain ⟨h2, h3⟩ := and2 (show (ok c a .e sc [e] && ok c as .k sc es) = true from h)
        exact fun kws hk => kw_cons (holdsE (iha C h2)) (ihs C h3) kws hk
    | d ks =>
      cases ks with
      | nil => cases es <;> cases h
      | cons z ks => cases es with
        | nil => cases h
        | cons e es =>
          obtain ⟨h2, h3⟩ := and2 (show (ok c a .e sc [e] && ok c as (.d ks) sc es) = true from h)
          obtain ⟨b1, b2⟩ := ihs C h3
          refine ⟨b1, fun keys hk => ?_⟩
          obtain ⟨j, p, r, rfl, hr⟩ := keysAre_cons hk
          obtain ⟨l, q⟩ := b2 r hr
          exact ⟨by rw [List.length_cons, List.length_cons, l], fun pos => pps_cons pe_str (PE_ex fun P1 hL => holdsE (iha (C.withP hL) h2)) (q pos)⟩
    | _ => cases es <;> cases h
  | tup as ih =>
    intro m X P W sc k es C h
    refine single_ok C h fun e he => ?_
    cases hv : vTup e with
    | none => rw [hv] at he; cases he
    | some es =>
      rw [hv] at he
      obtain ⟨j, p, rfl⟩ := vTup_ok hv
      exact snd_tup (ih C he)
  | disp as ih =>
    intro m X P W sc k es C h
    refine single_ok C h fun e he => ?_
    cases hv : vLst e with
    | none => rw [hv] at he; cases he
    | some es =>
      rw [hv] at he
      obtain ⟨p, rfl⟩ := vLst_ok hv
      exact snd_disp (ih C he)
  | ddisp ks as ih =>
    intro m X P W sc k es C h
    refine single_ok C h fun e he => ?_
    cases hv : vDict e with
    | none => rw [hv] at he; cases he
    | some q =>
      obtain ⟨keys, vals⟩ := q
      rw [hv] at he
      obtain ⟨q1, h5⟩ := and2 he
      obtain ⟨q2, h4⟩ := and2 q1
      obtain ⟨q3, h3⟩ := and2 q2
      obtain ⟨h1, h2⟩ := and2 q3
      obtain ⟨p, rfl⟩ := vDict_ok hv
      obtain ⟨b1, b2⟩ := ih C h5
      obtain ⟨l, q⟩ := b2 keys (of_decide_eq_true h1)
      exact snd_ddisp C b1 (of_decide_eq_true h1) (of_decide_eq_true h2) (of_decide_eq_true h3) (fun z => by rw [z] at h4; cases h4) l (q p)
  | bin op a b iha ihb =>
    intro m X P W sc k es C h
    refine single_ok C h fun e he => ?_
    cases hv : vBin e with
    | none => rw [hv] at he; cases he
    | some q =>
      obtain ⟨x, o, y⟩ := q
      rw [hv] at he
      obtain ⟨h1, h2⟩ := and2 he
      obtain ⟨h2, h3⟩ := and2 h2
      obtain ⟨p, rfl⟩ := vBin_ok hv
      have eo : o = op.py := of_decide_eq_true h1
      subst eo
      exact snd_bin C (holdsE (iha C h2)) (holdsE (ihb C h3))
  | neg a ih =>
    intro m X P W sc k es C h
    refine single_ok C h fun e he => ?_
    cases hv : vUn e with
    | none => rw [hv] at he; cases he
    | some q =>
      obtain ⟨o, x⟩ := q
      rw [hv] at he
      obtain ⟨p, rfl⟩ := vUn_ok hv
      cases o with
      | USub => exact snd_neg C (holdsE (ih C he))
      | _ => cases he
  | not a ih =>
    intro m X P W sc k es C h
    unfold ok at h
    split at h
    · rename_i e
      cases hv : vUn e with
      | none => rw [hv] at h; cases h
      | some q =>
        obtain ⟨o, x⟩ := q
        rw [hv] at h
        obtain ⟨p, rfl⟩ := vUn_ok hv
        cases o with
        | Not => exact ⟨_, rfl, snd_not (holdsE (ih C h))⟩
        | _ => cases h
    · rename_i e
      cases hv : vUn e with
      | none => rw [hv] at h; cases h
      | some q =>
        obtain ⟨o, x⟩ := q
        rw [hv] at h
        obtain ⟨p, rfl⟩ := vUn_ok hv
        cases o with
        | Not => exact ⟨_, rfl, snd_notT (holdsT (ih C h)).1, fun hb => by cases hb⟩
        | _ => cases h
    · cases h
  | cmp op a b iha ihb =>
    intro m X P W sc k es C h
    refine dual_ok h fun e he => ?_
    split at he
    · rename_i x o y hv
      obtain ⟨h1, h2⟩ := and2 he
      obtain ⟨h1, h0⟩ := and2 h1
      obtain ⟨h2, h3⟩ := and2 h2
      obtain ⟨p, rfl⟩ := vCmp_ok hv
      have eo : o = op.py := of_decide_eq_true h1
      subst eo
      exact ⟨snd_cmp C (cmpPlain_ok h0) (holdsE (iha C h2)) (holdsE (ihb C h3)), snd_cmpT C (cmpPlain_ok h0) (holdsE (iha C h2)) (holdsE (ihb C h3)), rfl⟩
    · cases he
  | chain o1 o2 a b d iha ihb ihd =>
    intro m X P W sc k es C h
    refine dual_ok h fun e he => ?_
    split at he
    · rename_i x o o' y z hv
      obtain ⟨h1, h2⟩ := and2 he
      obtain ⟨h1, g2⟩ := and2 h1
      obtain ⟨h1, g1⟩ := and2 h1
      obtain ⟨h0, h1⟩ := and2 h1
      obtain ⟨h2, h3⟩ := and2 h2
      obtain ⟨h3, h4⟩ := and2 h3
      obtain ⟨p, rfl⟩ := vCmp_ok hv
      have e1 : o = o1.py := of_decide_eq_true h0
      have e2 : o' = o2.py := of_decide_eq_true h1
      subst e1 e2
      exact ⟨snd_chain C (cmpPlain_ok g1) (cmpPlain_ok g2) (holdsE (iha C h2)) (holdsE (ihb C h3)) (holdsE (ihd C h4)) (noset_last (cop_in g2)), snd_chainT C (cmpPlain_ok g1) (cmpPlain_ok g2) (holdsE (iha C h2)) (holdsE (ihb C h3)) (holdsE (ihd C h4)) (noset_last (cop_in g2)), rfl⟩
    · cases he
  | same neg a b cs iha ihb =>
    intro m X P W sc k es C h
    refine dual_ok h fun e he => ?_
    split at he
    · rename_i x o y hv
      obtain ⟨h1, h2⟩ := and2 he
      obtain ⟨h1, h0⟩ := and2 h1
      obtain ⟨h2, h3⟩ := and2 h2
      obtain ⟨p, rfl⟩ := vCmp_ok hv
      have eo : o = if neg then .NotEq else .Eq := of_decide_eq_true h1
      subst eo
      have hcs : ∀ d ∈ cs, d ∈ c.T.idq := fun d hd => of_decide_eq_true (List.all_eq_true.mp h0 d hd)
      exact ⟨snd_same C hcs (holdsE (iha C h2)) (holdsE (ihb C h3)), snd_sameT C hcs (holdsE (iha C h2)) (holdsE (ihb C h3)), rfl⟩
    · cases he
  | inx neg a b iha ihb =>
    intro m X P W sc k es C h
    refine dual_ok h fun e he => ?_
    split at he
    · rename_i x o y hv
      obtain ⟨h1, h2⟩ := and2 he
      obtain ⟨h1, h0⟩ := and2 h1
      obtain ⟨h2, h3⟩ := and2 h2
      obtain ⟨p, rfl⟩ := vCmp_ok hv
      have eo : o = if neg then .NotIn else .In := of_decide_eq_true h1
      subst eo
      exact ⟨snd_inx C (holdsE (iha C h2)) (holdsE (ihb C h3)) (noset_in h0), snd_inxT C (holdsE (iha C h2)) (holdsE (ihb C h3)) (noset_in h0), rfl⟩
    · cases he
  | and a b iha ihb =>
    intro m X P W sc k es C h
    unfold ok at h
    split at h
    · rename_i e
      split at h
      · rename_i x y rest p hv
        have ee := vBool_ok hv
        subst ee
        cases m with
        | e =>
          obtain ⟨h1, h2⟩ := and2 (show (ok c a .e sc [x] && ok c b .e sc _) = true from h)
          refine ⟨_, rfl, snd_and (holdsE (iha C h1)) ?_⟩
          cases rest with
          | nil => exact pe_one (holdsE (ihb C h2))
          | cons r rs => exact holdsE (ihb C h2)
        | t =>
          obtain ⟨h1, h2⟩ := and2 (show (ok c a .t sc [x] && ok c b .t sc _) = true from h)
          have pw : PW X (.BoolOp .And (x :: y :: rest) p) (tT P W G (.and a b)) := by
            refine snd_wand (holdsT (iha C h1)).1 ?_
            cases rest with
            | nil => exact snd_w1 (holdsT (ihb C h2)).1 _
            | cons r rs => exact (holdsT (ihb C h2)).2 rfl
          exact ⟨_, rfl, pw.pt, fun _ => pw⟩
        | _ => cases h
      · cases h
    · cases h
  | or a b iha ihb =>
    intro m X P W sc k es C h
    unfold ok at h
    split at h
    · rename_i e
      split at h
      · rename_i x y rest p hv
        have ee := vBool_ok hv
        subst ee
        cases m with
        | e =>
          obtain ⟨h1, h2⟩ := and2 (show (ok c a .e sc [x] && ok c b .e sc _) = true from h)
          refine ⟨_, rfl, snd_or (holdsE (iha C h1)) ?_⟩
          cases rest with
          | nil => exact pe_one (holdsE (ihb C h2))
          | cons r rs => exact holdsE (ihb C h2)
        | t =>
          obtain ⟨h1, h2⟩ := and2 (show (ok c a .t sc [x] && ok c b .t sc _) = true from h)
          have pw : PW X (.BoolOp .Or (x :: y :: rest) p) (tT P W G (.or a b)) := by
            refine snd_wor (holdsT (iha C h1)).1 ?_
            cases rest with
            | nil => exact snd_w1 (holdsT (ihb C h2)).1 _
            | cons r rs => exact (holdsT (ihb C h2)).2 rfl
          exact ⟨_, rfl, pw.pt, fun _ => pw⟩
        | _ => cases h
      · cases h
    · cases h
  | ite t a b iht iha ihb =>
    intro m X P W sc k es C h
    refine single_ok C h fun e he => ?_
    cases hv : vIf e with
    | none => rw [hv] at he; cases he
    | some q =>
      obtain ⟨z, x, y⟩ := q
      rw [hv] at he
      obtain ⟨h1, h2⟩ := and2 he
      obtain ⟨h2, h3⟩ := and2 h2
      obtain ⟨p, rfl⟩ := vIf_ok hv
      exact snd_ite (holdsT (iht C h1)).1 (holdsE (iha C h2)) (holdsE (ihb C h3))
  | idx a i iha ihi =>
    intro m X P W sc k es C h
    refine single_ok C h fun e he => ?_
    cases hv : vSub e with
    | none => rw [hv] at he; cases he
    | some q =>
      obtain ⟨x, y⟩ := q
      rw [hv] at he
      obtain ⟨h1, h2⟩ := and2 he
      obtain ⟨h2, h3⟩ := and2 h2
      obtain ⟨p, rfl⟩ := vSub_ok hv
      exact snd_idx C (holdsE (iha C h2)) (holdsE (ihi C h3)) (plainIx h1)
  | attr a f cs ih =>
    intro m X P W sc k es C h
    refine single_ok C h fun e he => ?_
    cases hv : vAttr e with
    | none => rw [hv] at he; cases he
    | some q =>
      obtain ⟨x, g⟩ := q
      rw [hv] at he
      obtain ⟨he, h3⟩ := and2 he
      obtain ⟨he, h2⟩ := and2 he
      obtain ⟨h0, h1⟩ := and2 he
      obtain ⟨p, rfl⟩ := vAttr_ok hv
      have eg : f = g := of_decide_eq_true h0
      subst eg
      refine snd_attr C (holdsE (ih C h3)) (fun d hd => ?_) (baseIx h1)
      obtain ⟨a1, a2⟩ := and2 (List.all_eq_true.mp h2 d hd)
      exact ⟨⟨_, List.getElem?_eq_getElem (of_decide_eq_true a1)⟩, of_decide_eq_true a2⟩
  | len i =>
    intro m X P W sc k es C h
    refine single_ok C h fun e he => ?_
    split at he
    · rename_i f y hv
      obtain ⟨he, h4⟩ := and2 he
      obtain ⟨he, h3⟩ := and2 he
      obtain ⟨h1, h2⟩ := and2 he
      obtain ⟨p, q, rfl⟩ := vCall_ok hv
      have ef : f = "len" := of_decide_eq_true h1
      subst ef
      cases hy : vName y with
      | none => rw [hy] at h4; cases h4
      | some x =>
        rw [hy] at h4
        obtain ⟨h4, h6⟩ := and2 h4
        obtain ⟨h4, h5⟩ := and2 h4
        obtain ⟨r, rfl⟩ := vName_ok hy
        obtain ⟨d1, d2⟩ := dbg_of h6
        exact snd_len C (of_decide_eq_true h4) (vis_of h5) d1 d2 (of_decide_eq_true h3) (gl_of C.scp h2) rfl rfl
    · cases he
  | call g as ih =>
    intro m X P W sc k es C h
    refine single_ok C h fun e he => ?_
    split at he
    · rename_i x es hv
      obtain ⟨he, h4⟩ := and2 he
      obtain ⟨he, h3⟩ := and2 he
      obtain ⟨he, h2⟩ := and2 he
      obtain ⟨h1, h0⟩ := and2 he
      have hx : x ≠ "" := of_decide_eq_true h0
      obtain ⟨p, q, rfl⟩ := vCall_ok hv
      obtain ⟨k1, k2, k3⟩ := call_of C h3
      have hg : g < G.length := by rw [← hng]; exact of_decide_eq_true h2
      cases es with
      | nil =>
        have := ih C h4
        cases as with
        | nil => exact snd_call0 C (List.getElem?_eq_getElem hg) (of_decide_eq_true h1) hx k1 k2
        | cons a b => cases h4
        | _ => cases h4
      | cons e es =>
        obtain ⟨s1, s2⟩ := all_cons k3
        exact snd_call C (List.getElem?_eq_getElem hg) (of_decide_eq_true h1) hx k1 k2 (ih C h4) (star_one s1 es X.env) (star_any _ _ s2)
    · cases he
  | newx cl g pm as ih =>
    intro m X P W sc k es C h
    refine single_ok C h fun e he => ?_
    cases hv : vCall e with
    | none => rw [hv] at he; cases he
    | some q =>
      obtain ⟨x, es, ks⟩ := q
      rw [hv] at he
      obtain ⟨he, h3⟩ := and2 he
      obtain ⟨h1, h2⟩ := and2 he
      obtain ⟨p, q, rfl⟩ := vCall_ok hv
      obtain ⟨k1, k2, k3⟩ := call_of C h2
      have hn : c.T.cn[cl]? = some x := of_decide_eq_true h1
      cases g with
      | none =>
        obtain ⟨g1, h7⟩ := and2 (show (decide (cl ∈ c.T.mk0) && es.isEmpty && ks.isEmpty && pm.isEmpty && ok c as .a sc es) = true from h3)
        obtain ⟨g2, h6⟩ := and2 g1
        obtain ⟨g3, h5⟩ := and2 g2
        obtain ⟨g4, h4⟩ := and2 g3
        have e1 := List.isEmpty_iff.mp h4
        have e2 := List.isEmpty_iff.mp h5
        have e3 := List.isEmpty_iff.mp h6
        subst e1 e2 e3
        cases as with
        | nil => exact snd_newx0 C hn (of_decide_eq_true g4) k1 k2
        | _ => cases h7
      | some g =>
        have hg : decide (g < c.ng) = true → g < G.length := fun h => by rw [← hng]; exact of_decide_eq_true h
        cases pm with
        | nil =>
          obtain ⟨g3, h6⟩ := and2 (show ((decide ((cl, g) ∈ c.T.mkf) && decide (g < c.ng)) && (ks.isEmpty && ok c as .a sc es)) = true from h3)
          obtain ⟨h4, h5⟩ := and2 g3
          obtain ⟨g6, h7⟩ := and2 h6
          have e2 := List.isEmpty_iff.mp g6
          subst e2
          cases es with
          | nil =>
            cases as with
            | nil => exact snd_newx00 C (List.getElem?_eq_getElem (hg h5)) hn (of_decide_eq_true h4) k1 k2
            | _ => cases h7
          | cons e es =>
            obtain ⟨s1, s2⟩ := all_cons k3
            exact snd_newx C (List.getElem?_eq_getElem (hg h5)) hn (of_decide_eq_true h4) k1 k2 (ih C h7) (star_one s1 es X.env) (star_any _ _ s2)
        | cons i pm =>
          obtain ⟨g3, h6⟩ := and2 (show ((decide ((cl, g) ∈ c.T.mkf) && decide (g < c.ng)) && (es.isEmpty && (match kwNames ks with
            | some names => decide ((cl, names, i :: pm) ∈ c.T.kws) && ok c as .k sc (ks.map (·.value))
            | none => false))) = true from h3)
          obtain ⟨h4, h5⟩ := and2 g3
          obtain ⟨g6, h7⟩ := and2 h6
          have e1 := List.isEmpty_iff.mp g6
          subst e1
          cases hk : kwNames ks with
          | none => rw [hk] at h7; cases h7
          | some names =>
            rw [hk] at h7
            obtain ⟨h7, h8⟩ := and2 h7
            obtain ⟨a1, a2, a3⟩ := kw_ok (pos := q) (env := X.env) hk
            obtain ⟨b1, b2⟩ := ih C h8 ks rfl
            have ln : names.length = ks.length := by
              have : ∀ {ks : List Keyword} {names : List Str}, kwNames ks = some names → names.length = ks.length := fun {ks} => by
                induction ks with
                | nil => intro names h; cases h; rfl
                | cons kw ks ihk =>
                  intro names h
                  obtain ⟨nm, v, pp⟩ := kw
                  cases nm with
                  | none => cases h
                  | some z =>
                    have h : (kwNames ks).map (fun ks => z :: ks) = some names := h
                    simp only [Option.map_eq_some_iff] at h
                    obtain ⟨ks', h2, e2⟩ := h
                    subst e2
                    rw [List.length_cons, List.length_cons, ihk h2]
              exact this hk
            refine snd_newxk C (List.getElem?_eq_getElem (hg h5)) hn (of_decide_eq_true h4) (of_decide_eq_true h7) (by simp) k1 k2 b1 (fun en ds e1 he => by rw [ln]; exact b2 en ds e1 he) a1 a2 ?_
            show (false || _) = false
            rw [a3]; rfl
  | toc a ih =>
    intro m X P W sc k es C h
    refine single_ok C h fun e he => ?_
    exact snd_toc (holdsE (ih C he))
  | bi b as ih =>
    intro m X P W sc k es C h
    refine single_ok C h fun e he => ?_
    split at he
    · rename_i x es hv
      obtain ⟨he, h5⟩ := and2 he
      obtain ⟨he, h4⟩ := and2 he
      obtain ⟨he, h3⟩ := and2 he
      obtain ⟨h1, h2⟩ := and2 he
      obtain ⟨p, q, rfl⟩ := vCall_ok hv
      obtain ⟨k1, k2, k3⟩ := call_of C h3
      have ex : x = b.nm := of_decide_eq_true h1
      subst ex
      cases es with
      | nil => cases h4
      | cons e es =>
        obtain ⟨s1, s2⟩ := all_cons k3
        exact snd_bi C (of_decide_eq_true h2) k1 (ih C h5) (star_one s1 es X.env) (star_any _ _ s2)
    · cases he
  | isi a ts cs ih =>
    intro m X P W sc k es C h
    refine single_ok C h fun e he => ?_
    split at he
    · rename_i x y z hv
      obtain ⟨he, h6⟩ := and2 he
      obtain ⟨he, h5⟩ := and2 he
      obtain ⟨he, h4⟩ := and2 he
      obtain ⟨he, h3⟩ := and2 he
      obtain ⟨h1, h2⟩ := and2 he
      obtain ⟨p, q, rfl⟩ := vCall_ok hv
      obtain ⟨k1, k2, k3⟩ := call_of C h3
      have ex : x = "isinstance" := of_decide_eq_true h1
      subst ex
      obtain ⟨s1, s2⟩ := all_cons k3
      obtain ⟨s2', _⟩ := all_cons s2
      have ok' := isOk_of h4
      cases hz : vTup z with
      | none =>
        rw [hz] at h6
        cases ts with
        | nil => cases h6
        | cons t ts =>
          cases ts with
          | nil => exact snd_isi C ok' (of_decide_eq_true h2) k1 (holdsE (ih C h5)) (tyName_ok C h6) (star_one s1 _ X.env) (star_one s2' _ X.env) (star_any _ _ s2)
          | cons _ _ => cases h6
      | some zs =>
        rw [hz] at h6
        obtain ⟨q6, q8⟩ := and2 h6
        obtain ⟨q5, q7⟩ := and2 q6
        obtain ⟨te, t1, t2⟩ := tyNames_ok C q7 q8
        obtain ⟨j, pp, rfl⟩ := vTup_ok hz
        exact snd_isiT C ok' (by rw [sizeLine_eq]; have := of_decide_eq_true q5; omega) (of_decide_eq_true h2) k1 (holdsE (ih C h5)) t1 t2 (star_one s1 _ X.env) (star_one s2' _ X.env) (star_any _ _ s2)
    · cases he
  | comp own t it cc el ihi ihc ihe =>
    intro m X P W sc k es C h
    refine single_ok C h fun e he => ?_
    cases hv : vComp e with
    | none => rw [hv] at he; cases he
    | some q =>
      obtain ⟨ele, tg, iter, fs, scope⟩ := q
      rw [hv] at he
      obtain ⟨p, rfl⟩ := vComp_ok hv
      exact PE_lc C (parts_ok C (fun C h => ihi C h) (fun C h => ihc C h) (fun C h => ihe C h) he)
  | yes =>
    intro m X P W sc k es C h
    cases h
  | rng a b iha ihb =>
    intro m X P W sc k es C h
    unfold ok at h
    split at h
    · rename_i tup e
      split at h
      · rename_i x y hv
        obtain ⟨h, h5⟩ := and2 h
        obtain ⟨h, h4⟩ := and2 h
        obtain ⟨h, h3⟩ := and2 h
        obtain ⟨h1, h2⟩ := and2 h
        obtain ⟨p, q, rfl⟩ := vCall_ok hv
        obtain ⟨k1, k2, k3⟩ := call_of C h3
        have ex : x = "range" := of_decide_eq_true h1
        subst ex
        obtain ⟨s1, _⟩ := all_cons k3
        split at h4
        · exact ⟨_, rfl, rfl, fun tg _ => snd_range1 C (of_decide_eq_true h2) k1 (holdsE (ihb C h5)) (star_one s1 _ X.env) (by rw [star_one s1]; rfl)⟩
        · cases h4
      · rename_i x y z hv
        obtain ⟨h, h5⟩ := and2 h
        obtain ⟨h, h3⟩ := and2 h
        obtain ⟨h1, h2⟩ := and2 h
        obtain ⟨h4, h5⟩ := and2 h5
        obtain ⟨p, q, rfl⟩ := vCall_ok hv
        obtain ⟨k1, k2, k3⟩ := call_of C h3
        have ex : x = "range" := of_decide_eq_true h1
        subst ex
        obtain ⟨s1, s2⟩ := all_cons k3
        obtain ⟨s2, _⟩ := all_cons s2
        exact ⟨_, rfl, rfl, fun tg _ => snd_range2 C (of_decide_eq_true h2) k1 (holdsE (iha C h4)) (holdsE (ihb C h5)) (star_one s1 _ X.env) (star_one s2 _ X.env) (by rw [star_one s1, star_one s2]; rfl) (by rw [star_one s2]; rfl)⟩
      · cases h
    · cases h
  | enu a ih =>
    intro m X P W sc k es C h
    cases h
  | zip a b iha ihb =>
    intro m X P W sc k es C h
    cases h
end Ev

set_option Elab.async false
set_option linter.all false
set_option maxRecDepth 100000
set_option maxHeartbeats 4000000
namespace Ev
open PySem PySem.Spec PyProof.Rows L2

def FlK (P : Pm) (D : Ends) (w' : Wd) (H' : Hp) (σ' : L2.St) : Fl → Prop
  | .nx => D.nx σ' H'
  | .rt d => ∀ v, DRw P.L w' v d → D.rt v H'
  | .bk => D.bk σ' H'
  | .ct => D.ct σ' H'
/-- what is wanted behind a statement -/
def PostS (P : Pm) (W : XK) (w : Wd) (R : Res Env Fl) (K : Wd → Hp → L2.St → Env → Fl → Prop) : Prop := match R with
  | .ok fl en => ∀ w' H' σ', w.le w' → Rep P w' H' σ' en → K w' H' σ' en fl
  | .err x S => ∀ cls d w' H', w.le w' → Mem P w' H' S → XR P.L w' H' cls d x → W cls d H'
  | .bad => False
def tS (P : Pm) (W : XK) (G : List Fn) (b : Sm) : TS := fun D σ H => ∃ w en, Rep P w H σ en ∧ PostS P W w (evS G b en) fun w' H' σ' _ fl => FlK P D w' H' σ' fl
section
variable {P : Pm} {W : XK} {w w0 : Wd} {σ : L2.St} {H : Hp} {α : Type}
theorem PostS.low {R : Res Env Fl} {K : Wd → Hp → L2.St → Env → Fl → Prop} (h : PostS P W w0 R K) (x : w0.le w) : PostS P W w R K := by
  cases R with
  | ok fl en => exact fun w' H' σ' a b => h w' H' σ' (x.trans a) b
  | err y S => exact fun cls d w' H' a b c => h cls d w' H' (x.trans a) b c
  | bad => exact h
theorem PostS.at {fl : Fl} {en : Env} {K : Wd → Hp → L2.St → Env → Fl → Prop} (h : PostS P W w (.ok fl en) K) (R : Rep P w H σ en) : K w H σ en fl := h w H σ (.refl w) R
/-- an expression first -/
theorem PostS.bindE {R : Res Env α} {k : α → Env → Res Env Fl} {K : Wd → Hp → L2.St → Env → Fl → Prop} (h : PostS P W w (R.bind k) K) : PostG P W σ w R fun w' _ en a => PostS P W w' (k a en) K := by
  cases R with
  | ok a en => exact fun w' H' le R => PostS.low h le
  | err x S => exact h
  | bad => exact h
theorem PostS.useD {R : Res Env SV} {k : D → Env → Res Env Fl} {K : Wd → Hp → L2.St → Env → Fl → Prop} (h : PostS P W w ((Ev.toD R).bind k) K) :
    PostG P W σ w R fun w1 H1 e1 sv => ∀ v, TR P w1 H1 σ e1 v sv → ∃ w' d, w1.le w' ∧ Rep P w' H1 σ e1 ∧ DRw P.L w' v d ∧ PostS P W w' (k d e1) K := PostG.toD (PostS.bindE h)
theorem PostS.opt {o : Option α} {en : Env} {k : α → Env → Res Env Fl} {K : Wd → Hp → L2.St → Env → Fl → Prop} (h : PostS P W w ((Res.opt o en).bind k) K) : ∃ a, o = some a ∧ PostS P W w (k a en) K := by
  cases o with
  | none => exact h.elim
  | some a => exact ⟨a, rfl, h⟩
/-- a statement first -/
theorem PostS.bindS {R : Res Env Fl} {k : Fl → Env → Res Env Fl} {K : Wd → Hp → L2.St → Env → Fl → Prop} (h : PostS P W w (R.bind k) K) : PostS P W w R fun w' _ _ en fl => PostS P W w' (k fl en) K := by
  cases R with
  | ok a en => exact fun w' H' σ' le R => PostS.low h le
  | err x S => exact h
  | bad => exact h
theorem PostS.imp {R : Res Env Fl} {K K' : Wd → Hp → L2.St → Env → Fl → Prop} (h : PostS P W w R K) (i : ∀ w' H' σ' en fl, w.le w' → Rep P w' H' σ' en → K w' H' σ' en fl → K' w' H' σ' en fl) : PostS P W w R K' := by
  cases R with
  | ok fl en => exact fun w' H' σ' a b => i _ _ _ _ _ a b (h w' H' σ' a b)
  | err x S => exact h
  | bad => exact h
end
theorem PS_imp {X : Cx} {e : Stmt} {t t' : TS} (h : PS X e t) (i : ∀ D σ H, t' D σ H → t D σ H) : PS X e t' := ⟨fun pins s σ H D I q => h.run pins s σ H D I (i D σ H q)⟩
theorem PSs_imp {X : Cx} {e : List Stmt} {t t' : TS} (h : PSs X e t) (i : ∀ D σ H, t' D σ H → t D σ H) : PSs X e t' := ⟨fun pins s σ H D I q => h.run pins s σ H D I (i D σ H q)⟩

/-- a def's body running -/
structure StmOk (X : Cx) : Prop where
  pass : PassesOwn (model X.prog X.w) X.A X.env X.xe
  fn : ∀ x, X.fn x = true
section
variable {X : Cx} {P : Pm} {W : XK} {G : List Fn} {sc : Scope} {k : Nat} {c : Chk}
theorem ss_skip : PSs X [] (tS P W G .skip) := PSs_imp pss_nil fun D σ H ⟨w, en, R, p⟩ => (p : PostS P W w (.ok .nx en) _) w H σ (.refl w) R
theorem ss_seq {st : Stmt} {rest : List Stmt} {a b : Sm} (ha : PS X st (tS P W G a)) (hb : PSs X rest (tS P W G b)) : PSs X (st :: rest) (tS P W G (.seq a b)) := by
  refine PSs_imp (pss_cons ha hb) fun D σ H ⟨w, en, R, p⟩ => ⟨w, en, R, (PostS.bindS (R := evS G a en) p).imp fun w1 H1 σ1 e1 fl le R1 q => ?_⟩
  cases fl with
  | nx => exact ⟨w1, e1, R1, q⟩
  | rt d => exact (q : PostS P W w1 (.ok (.rt d) e1) _).at R1
  | bk => exact (q : PostS P W w1 (.ok .bk e1) _).at R1
  | ct => exact (q : PostS P W w1 (.ok .ct e1) _).at R1
/-- target = value -/
theorem ss_asg (C : Cxt X P c.N sc W G c.gn c.bn k c.T) {t : Tg} {x : Ex} {tg e : Expr} {pos : Pos} (he : PE X e (tE P W G x)) (hg : PG X tg (gOf X.K t)) (hs : swapsWithSole [tg] e pos.line X.env = pure false) (hw : swappedStores [tg] e X.env = pure none)
    (h1 : (assignEach [tg] X.env).map (·.2) = [assign tg X.env]) : PS X (.Assign [tg] e pos) (tS P W G (.asg t x)) := by
  refine PS_imp (ps_asg he hg hs hw h1) fun D σ H ⟨w, en, R, p⟩ => ⟨w, en, R, (PostS.useD (R := ev G x en) p).imp fun w1 H1 e1 sv le R1 q v T => ?_⟩
  obtain ⟨w', d, le', R', r, q⟩ := q v T
  obtain ⟨e2, ea, q⟩ := q.opt
  exact asg_at C.hK t R' r ea fun σ2 R2 _ => q.at R2
/-- name = value, the value its own -/
theorem own_at {i : Nat} {x : Ex} {D : Ends} {σ : L2.St} {H : Hp} {te : TE} (h : tS P W G (.own i x) D σ H) (ht : ∀ Q, tE P W G x σ H Q → te σ H Q) : tAsg te (gName i) D σ H := by
  obtain ⟨w, en, R, p⟩ := h
  refine ht _ ⟨w, en, R, (PostS.bindE (R := ev G x en) p).imp fun w1 H1 e1 sv le R1 q v T => ?_⟩
  split at q
  · rename_i hi
    exact q.at (R1.store hi T)
  · exact q.elim
theorem ss_own (C : Cxt X P c.N sc W G c.gn c.bn k c.T) {i : Nat} {x : Ex} {y : Str} {e : Expr} {pos py : Pos} (hi : c.N[i]? = some y) (hl : L2.Loc sc y) (hf : ∀ x, X.fn x = true) (he : PE X e (tE P W G x)) (hs : swapsWith e (some (.Name y py)) pos.line X.env = pure false) :
    PS X (.Assign [.Name y py] e pos) (tS P W G (.own i x)) := by
  refine PS_imp (ps_set (by rw [C.n]; exact C.nd) (by rw [C.n]; exact hi) (by rw [C.scp]; exact hl) he hs (.inl (hf y))) fun D σ H h => own_at h fun Q q => q
theorem ss_ownLc (C : Cxt X P c.N sc W G c.gn c.bn k c.T) {i : Nat} {y : Str} {own : List Nat} {t : Tg} {it cc el : Ex} {ele tg iter : Expr} {fs : List Expr} {scope : Scope} {pos py spos : Pos} (hi : c.N[i]? = some y) (hl : sc.names.lookup y = some .local)
    (p : Parts X P W G own t it cc el ele tg iter fs scope) (hs : swapsWith (.ListComp ele [⟨tg, iter, fs, 0⟩] scope pos) (some (.Name y py)) spos.line X.env = pure true) :
    PS X (.Assign [.Name y py] (.ListComp ele [⟨tg, iter, fs, 0⟩] scope pos) spos) (tS P W G (.own i (.comp own t it cc el))) := by
  refine PS_imp (ps_setLc C.calm (by rw [C.n]; exact C.nd) (by rw [C.n]; exact hi) (by rw [C.scp]; exact hl) hs p.it p.blk p.tg p.cc p.el (fun x => setIx p.set x)) fun D σ H h => own_at h fun Q q => ?_
  rw [ownN_snd]
  exact lc_of C p.slots q
/-- a, b = x, y -/
theorem ss_par (C : Cxt X P c.N sc W G c.gn c.bn k c.T) {i j : Nat} {xa xb : Ex} {x y : Str} {a b : Expr} {px py pt pos : Pos} {kt k2 : Nat} {pt2 : Pos} (hi : c.N[i]? = some x) (hj : c.N[j]? = some y) (hij : i ≠ j) (hx : sc.names.lookup x = some .local) (hy : sc.names.lookup y = some .local)
    (ha : PE X a (tE P W G xa)) (hb : PE X b (tE P W G xb)) (hsa : noStar a = true) (hsb : noStar b = true) (hw : swappedStores [.Tuple [.Name x px, .Name y py] kt pt] (.Tuple [a, b] k2 pt2) X.env = pure (some [x, y])) :
    PS X (.Assign [.Tuple [.Name x px, .Name y py] kt pt] (.Tuple [a, b] k2 pt2) pos) (tS P W G (.par i j xa xb)) := by
  refine PS_imp (ps_par (ta := tCons (tE P W G xa) (tCons (tE P W G xb) tNil)) C.calm (by rw [C.n]; exact C.nd) (by rw [C.n]; exact hi) (by rw [C.n]; exact hj) hij (by rw [C.scp]; exact hx) (by rw [C.scp]; exact hy) (pa_cons ha (pa_cons hb pa_nil (star_one hsb _ X.env)) (star_one hsa _ X.env)) hw rfl)
    fun D σ H ⟨w, en, R, p⟩ => ⟨w, en, R, (PostS.useD (R := ev G xa en) p).imp fun w1 H1 e1 sv le R1 q v T => ?_⟩
  obtain ⟨w2, d, le2, R2, r, q⟩ := q v T
  refine ⟨w2, e1, R2, (PostS.useD (R := ev G xb e1) q).imp fun w3 H3 e3 sv3 le3 R3 q3 v3 T3 => ?_⟩
  obtain ⟨w4, d2, le4, R4, r2, q4⟩ := q3 v3 T3
  refine ⟨v, v3, rfl, ?_⟩
  split at q4
  · rename_i hlt
    have S1 := R4.store hlt.1 (.v (r.up (le3.trans le4)))
    have S2 := S1.store (i := j) (v := v3) (sv := .v d2) (by show j < (e3.r.set i _).length; rw [List.length_set]; exact hlt.2) (.v r2)
    exact q4.at S2
  · exact q4.elim
theorem ss_ex {x : Ex} {e : Expr} {pos : Pos} (he : PE X e (tE P W G x)) (hs : swapsWith e none pos.line X.env = pure false) : PS X (.Expr e pos) (tS P W G (.ex x)) := by
  refine PS_imp (ps_expr he hs) fun D σ H ⟨w, en, R, p⟩ => ⟨w, en, R, (PostS.bindE (R := ev G x en) p).imp fun w1 H1 e1 sv le R1 q v T => ?_⟩
  exact q.at R1
theorem ss_ret {x : Ex} {e : Expr} {pos : Pos} (he : PE X e (tE P W G x)) : PS X (.Return (some e) pos) (tS P W G (.ret x)) := by
  refine PS_imp (ps_ret he) fun D σ H ⟨w, en, R, p⟩ => ⟨w, en, R, (PostS.useD (R := ev G x en) p).imp fun w1 H1 e1 sv le R1 q v T => ?_⟩
  obtain ⟨w', d, le', R', r, q⟩ := q v T
  exact q.at R' v r
theorem ss_retn {pos : Pos} : PS X (.Return none pos) (tS P W G .retn) := PS_imp ps_retN fun D σ H ⟨w, en, R, p⟩ => (p : PostS P W w (.ok (.rt .non) en) _).at R .non .non
theorem ss_ite {xc : Ex} {a b : Sm} {e : Expr} {sa sb : List Stmt} {pos : Pos} (hc : PT X e (tT P W G xc)) (ha : PSs X sa (tS P W G a)) (hb : PSs X sb (tS P W G b)) : PS X (.If e sa sb pos) (tS P W G (.ite xc a b)) := by
  refine PS_imp (ps_if hc ha hb) fun D σ H ⟨w, en, R, p⟩ => ⟨w, en, R, (PostS.bindE (R := toD (ev G xc en)) p).imp fun w1 H1 e1 d le R1 q => ?_⟩
  cases d with
  | bl b =>
    refine ⟨b, rfl, ?_⟩
    cases b with
    | true => exact ⟨w1, e1, R1, q⟩
    | false => exact ⟨w1, e1, R1, q⟩
  | _ => exact (show False from q).elim
theorem ss_brk {pos : Pos} : PS X (.Break pos) (tS P W G .brk) := PS_imp ps_break fun D σ H ⟨w, en, R, p⟩ => (p : PostS P W w (.ok .bk en) _).at R
theorem ss_cont {pos : Pos} : PS X (.Continue pos) (tS P W G .cont) := PS_imp ps_continue fun D σ H ⟨w, en, R, p⟩ => (p : PostS P W w (.ok .ct en) _).at R
theorem ss_for (C : Cxt X P c.N sc W G c.gn c.bn k c.T) (S : StmOk X) {t : Tg} {x : Ex} {b : Sm} {tg iter : Expr} {body : List Stmt} {pos : Pos} (hi : PI X tg iter (iI P W G x)) (hg : PG X tg (gOf X.K t)) (hb : PSs X body (tS P W G b)) (hs : noSet iter = true) :
    PS X (.For tg iter body [] pos) (tS P W G (.for_ t x b)) := by
  refine PS_imp (ps_for S.pass C.calm hi hg hb (fun x => setIx hs x)) fun D σ H ⟨w, en, R, p⟩ => ⟨w, en, R, (PostS.bindE (R := itemsOf (ev G x en)) p).imp fun w1 H1 e1 xs le R1 q J wd => ?_⟩
  obtain ⟨Gd, Y, wk, hG, hY⟩ := wd
  generalize hf : (fun x e2 => (Res.opt (asgT t x e2) e2).bind fun e3 _ => evS G b e3) = f at q
  refine for_it wk (fun i σ H => ∃ w e, w1.le w ∧ Rep P w H σ e ∧ PostS P W w (forLoop f (xs.drop i) e) fun w' H' σ' _ fl => FlK P D w' H' σ' fl) ?_ ?_ ?_ ?_
  · exact ⟨w1, e1, .refl w1, R1, q⟩
  · rintro i σ H hi ⟨w, e, le, R, _⟩
    exact hG H (le.f.trans R.mem.sub)
  · rintro i x σ H H' hi ⟨w, e, le, R, q⟩ y
    have y := hY i H x H' (le.f.trans R.mem.sub) hi y
    have item : ∃ d w', xs[i]? = some d ∧ w.le w' ∧ Rep P w' H' σ e ∧ DRw P.L w' x d := by
      rcases y with ⟨rfl, d, ed, rd⟩ | ⟨tt, vs, ds, rfl, ht, rfl, ed, rd⟩
      · exact ⟨d, w, ed, .refl w, R, rd.up le⟩
      · obtain ⟨R2, le2⟩ := R.new (o := .tup vs) ht
        exact ⟨_, _, ed, le2, R2, .tup (.of upd_same) (rd.up (le.trans le2))⟩
    obtain ⟨d, w', ed, le', R', rd⟩ := item
    rw [drop_cons ed] at q
    have q : PostS P W w ((f d e).bind fun fl e' => match fl with
      | .nx => forLoop f (xs.drop (i + 1)) e'
      | .ct => forLoop f (xs.drop (i + 1)) e'
      | .bk => .ok .nx e'
      | .rt d => .ok (.rt d) e') _ := q
    have ef : f d e = (Res.opt (asgT t d e) e).bind fun e3 _ => evS G b e3 := by rw [← hf]
    rw [ef, Res.bind_assoc] at q
    obtain ⟨e3, ea, q⟩ := q.opt
    refine asg_at C.hK t R' rd ea fun σ2 R2 _ => ⟨w', e3, R2, ((PostS.bindS (R := evS G b e3) q).low le').imp fun w4 H4 σ4 e4 fl le4 R4 q4 => ?_⟩
    cases fl with
    | nx => exact ⟨w4, e4, (le.trans le').trans le4, R4, q4⟩
    | ct => exact ⟨w4, e4, (le.trans le').trans le4, R4, q4⟩
    | bk => exact (q4 : PostS P W w4 (.ok .nx e4) _).at R4
    | rt d => exact (q4 : PostS P W w4 (.ok (.rt d) e4) _).at R4
  · rintro σ H ⟨w, e, le, R, q⟩
    rw [List.drop_length] at q
    exact (q : PostS P W w (.ok .nx e) _).at R
theorem ss_whl (S : StmOk X) {n : Nat} {xc : Ex} {b : Sm} {e : Expr} {body : List Stmt} {pos : Pos} (hc : PT X e (tT P W G xc)) (hb : PSs X body (tS P W G b)) : PS X (.While e body [] pos) (tS P W G (.whl n xc b)) := by
  refine PS_imp (ps_while S.pass hc hb) fun D σ H ⟨w, en, R, p⟩ => ?_
  refine ⟨fun m σ H => ∃ w e, Rep P w H σ e ∧ PostS P W w (whileLoop (fun e => toD (ev G xc e)) (fun e => evS G b e) m e) fun w' H' σ' _ fl => FlK P D w' H' σ' fl, ⟨n, w, en, R, p⟩, ?_⟩
  rintro m σ H ⟨w, e, R, q⟩
  cases m with
  | zero => exact (show False from q).elim
  | succ m =>
    refine ⟨w, e, R, (PostS.bindE (R := toD (ev G xc e)) q).imp fun w1 H1 e1 d le R1 q1 => ?_⟩
    cases d with
    | bl b' =>
      refine ⟨b', rfl, ?_⟩
      cases b' with
      | true =>
        rw [if_pos rfl]
        refine ⟨fun σ' H' => ∃ w e, Rep P w H' σ' e ∧ PostS P W w (whileLoop (fun e => toD (ev G xc e)) (fun e => evS G b e) m e) fun w' H' σ' _ fl => FlK P D w' H' σ' fl, fun σ' H' h => ⟨m, Nat.lt_succ_self m, h⟩, w1, e1, R1, (PostS.bindS (R := evS G b e1) q1).imp fun w2 H2 σ2 e2 fl le2 R2 q2 => ?_⟩
        cases fl with
        | nx => exact ⟨w2, e2, R2, q2⟩
        | ct => exact ⟨w2, e2, R2, q2⟩
        | bk => exact (q2 : PostS P W w2 (.ok .nx e2) _).at R2
        | rt d => exact (q2 : PostS P W w2 (.ok (.rt d) e2) _).at R2
      | false =>
        rw [if_neg (by decide)]
        exact (q1 : PostS P W w1 (.ok .nx e1) _).at R1
    | _ => exact (show False from q1).elim
end
end Ev

set_option Elab.async false
set_option linter.all false
set_option maxRecDepth 100000
set_option maxHeartbeats 4000000
namespace Ev
open PySem PySem.Spec PyProof.Rows L2

/-- an object of one's own changes -/
theorem Rep.setOwn {P : Pm} {w : Wd} {H : Hp} {σ : L2.St} {en : Env} (R : Rep P w H σ en) {i : Nat} {sv sv' : SV} {a : Addr} {o : HO} (e : en.get i = some sv) (ho : sv.own = true) (hσ : σ[i]? = some (some (.ref a))) (r : SVR P.L w (upd H a o) (.ref a) sv') :
    Rep P w (upd H a o) σ (en.set i (some sv')) := by
  have ow : Owns en σ i a := ⟨sv, e, ho, hσ⟩
  obtain ⟨nF, n0, nI⟩ := R.own i a ow
  have hi := get_lt e
  have ow' : ∀ {j b}, Owns (en.set i (some sv')) σ j b → Owns en σ j b := fun {j b} ⟨s', g1, g2, g3⟩ => by
    by_cases hj : j = i
    · subst hj
      rw [hσ] at g3
      cases g3
      exact ow
    · rw [get_set_ne hj] at g1
      exact ⟨s', g1, g2, g3⟩
  refine ⟨R.mem.write n0 nI nF, by show (en.r.set i _).length = _; rw [List.length_set]; exact R.len, fun j s' g => ?_, fun j b z => R.own j b (ow' z), fun j l b x y => R.dis j l b (ow' x) (ow' y)⟩
  by_cases hj : j = i
  · subst hj
    rw [get_set_self hi] at g
    cases g
    exact ⟨_, hσ, r⟩
  · rw [get_set_ne hj] at g
    obtain ⟨v, g1, g2⟩ := R.slot j s' g
    refine ⟨v, g1, g2.at fun b hb eb => upd_ne fun q => hj ?_⟩
    exact R.dis j i a ⟨s', g, hb, by rw [g1, eb, q]⟩ ow
section
variable {X : Cx} {P : Pm} {W : XK} {G : List Fn} {sc : Scope} {k : Nat} {c : Chk}
theorem putK_val {k : Str} {L : Lk} {w : Wd} {v : V} {d : D} (rv : DRw L w v d) : ∀ {kvs : List (Key × V)} {vs : List D}, DRsw L w (kvs.map (·.2)) vs →
    DRsw L w ((kvs.map fun kv => if kv.1 = Sum.inr k then (kv.1, v) else kv).map (·.2)) (Ev.putK k d (kvs.map fun p => kD p.1) vs) ∧ (kvs.map fun kv => if kv.1 = Sum.inr k then (kv.1, v) else kv).map (fun p => kD p.1) = kvs.map fun p => kD p.1
  | [], vs, r => by cases r; exact ⟨.nil, rfl⟩
  | (key, v0) :: kvs, vs, r => by
    cases r with
    | cons r0 rs =>
      obtain ⟨h1, h2⟩ := putK_val (k := k) rv rs
      cases key with
      | inl i =>
        refine ⟨?_, ?_⟩
        · rw [List.map_cons, if_neg (fun z => by cases z)]
          exact .cons r0 h1
        · rw [List.map_cons, if_neg (fun z => by cases z), List.map_cons, h2, List.map_cons]
      | inr x =>
        by_cases hx : x = k
        · subst hx
          refine ⟨?_, ?_⟩
          · rw [List.map_cons, if_pos rfl]
            show DRsw L w _ ((if x = x then d else _) :: _)
            rw [if_pos rfl]
            exact .cons rv h1
          · rw [List.map_cons, if_pos rfl, List.map_cons, h2, List.map_cons]
        · have hn : ¬ (Sum.inr x : Key) = Sum.inr k := fun z => hx (Sum.inr.inj z)
          refine ⟨?_, ?_⟩
          · rw [List.map_cons, if_neg hn]
            show DRsw L w _ ((if x = k then d else _) :: _)
            rw [if_neg hx]
            exact .cons r0 h1
          · rw [List.map_cons, if_neg hn, List.map_cons, h2, List.map_cons]
theorem ss_setk (C : Cxt X P c.N sc W G c.gn c.bn k c.T) {xo x : Ex} {z : Str} {o e : Expr} {pos pos' kp : Pos} {j : Nat} (ho : PE X o (tE P W G xo)) (he : PE X e (tE P W G x)) (hs : swapsWith e (some (.Subscript o (.Constant (.str z) j kp) pos')) pos.line X.env = pure false) :
    PS X (.Assign [.Subscript o (.Constant (.str z) j kp) pos'] e pos) (tS P W G (.setk xo z x)) := by
  refine PS_imp (ps_dput (by have := C.room.un; omega) ho pe_str he hs) fun D σ H ⟨w, en, R, p⟩ => ⟨w, en, R, (PostS.useD (R := ev G x en) p).imp fun w1 H1 e1 sv le R1 q v T => ?_⟩
  obtain ⟨w2, d, le2, R2, r, q⟩ := q v T
  refine ⟨w2, e1, R2, (PostS.useD (R := ev G xo e1) q).imp fun w3 H3 e3 sv3 le3 R3 q3 v3 T3 => ?_⟩
  obtain ⟨w4, od, le4, R4, ro, q4⟩ := q3 v3 T3
  obtain ⟨S', es, q4⟩ := q4.opt
  have r : DRw P.L w4 v d := r.up (le3.trans le4)
  cases od with
  | ref n =>
    cases ro with
    | @ref _ a h1 =>
      have es : (match e3.s[n]? with
        | some (.dct ks vs) => if ks.length < lim then (lookK z ks vs).map fun _ => e3.s.set n (.dct ks (Ev.putK z d ks vs)) else none
        | _ => none) = some S' := es
      split at es
      · rename_i ks vs ec
        split at es
        · rename_i hl
          simp only [Option.map_eq_some_iff] at es
          obtain ⟨d0, e0, rfl⟩ := es
          obtain ⟨kvs, ea, rfl, rr⟩ := R4.mem.cell n _ a ec h1
          obtain ⟨v0, ev0, _⟩ := lookK_val rr e0
          obtain ⟨p1, p2⟩ := putK_val (k := z) r rr
          have ep : L2.putK kvs (Sum.inr z) v = kvs.map fun kv => if kv.1 = Sum.inr z then (kv.1, v) else kv := by
            unfold L2.putK
            rw [if_pos (by rw [valV_any, ev0]; rfl)]
          refine ⟨a, _, rfl, DPut.k (k := .inr z) ea (by rw [lim_eq] at hl; simpa using hl), ?_⟩
          rw [ep]
          have nI := List.mem_of_getElem? h1
          have m := R4.mem.setCell (o := .dK (kvs.map fun kv => if kv.1 = Sum.inr z then (kv.1, v) else kv)) (c := .dct (kvs.map fun p => kD p.1) (Ev.putK z d (kvs.map fun p => kD p.1) vs)) h1 ⟨_, upd_same, p2.symm, p1⟩
          have Rn : Rep P w4 (upd H3 a (.dK (kvs.map fun kv => if kv.1 = Sum.inr z then (kv.1, v) else kv))) σ ⟨e3.r, e3.s.set n (.dct (kvs.map fun p => kD p.1) (Ev.putK z d (kvs.map fun p => kD p.1) vs))⟩ :=
            R4.mono (.refl w4) m (fun i b y => upd_ne fun q => (R4.own i b y).2.2 (by rw [q]; exact nI)) fun i b y => ⟨(R4.own i b y).1, (R4.own i b y).2.2⟩
          exact q4.at Rn
        · cases es
      · cases es
  | _ => cases es
theorem ss_seti (C : Cxt X P c.N sc W G c.gn c.bn k c.T) {i : Nat} {xi x : Ex} {y : Str} {ix e : Expr} {pos pos' py : Pos} (hi : c.N[i]? = some y) (hv : Vis sc y) (hd : (y == ("__debug__" : Str)) = false) (hcd : (y == ("__classdict__" : Str)) = false) (hx : PE X ix (tE P W G xi)) (he : PE X e (tE P W G x)) (hns : noSlice ix = true)
    (hs : swapsWithSole [.Subscript (.Name y py) ix pos'] e pos.line X.env = pure false) (hw : swappedStores [.Subscript (.Name y py) ix pos'] e X.env = pure none) : PS X (.Assign [.Subscript (.Name y py) ix pos'] e pos) (tS P W G (.seti i xi x)) := by
  have hg : PG X (.Subscript (.Name y py) ix pos') (gSub (tVar i) (tE P W G xi) rSetL) := pg_sub (pe_var (by rw [C.n]; exact hi) (by rw [C.scp]; exact hv) hd hcd) hx set_list (fun v => by cases ix <;> first | rfl | cases hns)
  refine PS_imp (ps_asg he hg hs hw rfl) fun D σ H ⟨w, en, R, p⟩ => ⟨w, en, R, (PostS.useD (R := ev G x en) p).imp fun w1 H1 e1 sv le R1 q v T => ?_⟩
  obtain ⟨w2, d, le2, R2, r, q⟩ := q v T
  cases eg : e1.get i with
  | none => rw [eg] at q; exact q.elim
  | some s1 =>
    rw [eg] at q
    cases s1 with
    | ol xs0 =>
      obtain ⟨u, eu, a, vs0, rfl, ea0, _⟩ := R2.slot i _ eg
      refine ⟨.ref a, eu, w2, e1, R2, (PostS.useD (R := ev G xi e1) q).imp fun w3 H3 e3 sv3 le3 R3 q3 v3 T3 => ?_⟩
      obtain ⟨w4, kd, le4, R4, rk, q4⟩ := q3 v3 T3
      split at q4
      · rename_i xs k' eg2
        obtain ⟨j, ej, q4⟩ := q4.opt
        obtain ⟨u2, eu2, a2, vs, rfl, ea, rr⟩ := R4.slot i _ eg2
        rw [eu] at eu2
        cases eu2
        cases rk
        refine ⟨a, vs, k', j, rfl, rfl, ea, by rw [rr.length]; exact ej, ?_⟩
        exact q4.at (R4.setOwn eg2 rfl eu ⟨a, _, rfl, upd_same, rr.set j (r.up (le3.trans le4))⟩)
      · exact q4.elim
    | _ => exact (show False from q).elim
theorem ss_app (C : Cxt X P c.N sc W G c.gn c.bn k c.T) {i : Nat} {x : Ex} {y : Str} {e : Expr} {pos py apos cpos : Pos} (hi : c.N[i]? = some y) (hv : Vis sc y) (hd : (y == ("__debug__" : Str)) = false) (hcd : (y == ("__classdict__" : Str)) = false) (he : PE X e (tE P W G x)) (hns : noStar e = true) (hline : (apos.endLine == cpos.line) = true) :
    PS X (.Expr (.Call (.Attribute (.Name y py) "append" apos) [e] [] cpos) pos) (tS P W G (.app i x)) := by
  have hf : ((backTo cpos (starEach [e] X.env)).all (fun x => !x.1) && (backToKw cpos (keywordEach [] X.env)).all (fun x => x.1.isSome) && decide ([e].length + ([] : List Keyword).length + (if ([] : List Keyword).isEmpty then 0 else 1) < 30)) = true := by
    rw [star_one hns]; rfl
  refine PS_imp (ps_expr (pe_bm PySem.F.plainAttrs_list PySem.F.slot_list_append PySem.F.type_list_append (mt_append (X := X)) (pe_var (i := i) (by rw [C.n]; exact hi) (by rw [C.scp]; exact hv) hd hcd) (pa_cons he pa_nil (star_one hns _ X.env)) rfl hf hline (star_one hns _ X.env) rfl)) fun D σ H ⟨w, en, R, p⟩ => ?_
  have p : PostS P W w (match en.get i with
    | some (.ol _) => (toD (ev G x en)).bind fun d e1 => (match e1.get i with
      | some (.ol xs) => if xs.length < lim then Res.ok Fl.nx (e1.set i (some (.ol (xs ++ [d])))) else .bad
      | _ => .bad)
    | _ => .bad) _ := p
  cases eg : en.get i with
  | none => rw [eg] at p; exact p.elim
  | some s1 =>
    rw [eg] at p
    cases s1 with
    | ol xs0 =>
      obtain ⟨u, eu, a, vs0, rfl, ea0, _⟩ := R.slot i _ eg
      refine ⟨.ref a, eu, .inl ⟨rfl, vs0, SqL.of ea0⟩, w, en, R, (PostS.useD (R := ev G x en) p).imp fun w1 H1 e1 sv le R1 q v T => ?_⟩
      obtain ⟨w2, d, le2, R2, r, q⟩ := q v T
      split at q
      · rename_i xs eg2
        split at q
        · rename_i hl
          obtain ⟨u2, eu2, a2, vs, rfl, ea, rr⟩ := R2.slot i _ eg2
          rw [eu] at eu2
          cases eu2
          refine ⟨a, vs, v, rfl, rfl, ea, by rw [rr.length, ← lim_eq]; exact hl, ?_⟩
          exact q.at (R2.setOwn eg2 rfl eu ⟨a, _, rfl, upd_same, rr.append (.cons r .nil)⟩)
        · exact q.elim
      · exact q.elim
    | _ => exact (show False from p).elim
/-- o.append(x), o a cell -/
theorem ss_appc (C : Cxt X P c.N sc W G c.gn c.bn k c.T) {xo x : Ex} {ob ix e : Expr} {pos py apos cpos : Pos} (ho : PE X (.Subscript ob ix py) (tE P W G xo)) (he : PE X e (tE P W G x)) (hns : noStar e = true) (hline : (apos.endLine == cpos.line) = true) :
    PS X (.Expr (.Call (.Attribute (.Subscript ob ix py) "append" apos) [e] [] cpos) pos) (tS P W G (.appc xo x)) := by
  have hf : ((backTo cpos (starEach [e] X.env)).all (fun x => !x.1) && (backToKw cpos (keywordEach [] X.env)).all (fun x => x.1.isSome) && decide ([e].length + ([] : List Keyword).length + (if ([] : List Keyword).isEmpty then 0 else 1) < 30)) = true := by
    rw [star_one hns]; rfl
  refine PS_imp (ps_expr (pe_bm PySem.F.plainAttrs_list PySem.F.slot_list_append PySem.F.type_list_append (mt_append (X := X)) ho (pa_cons he pa_nil (star_one hns _ X.env)) rfl hf hline (star_one hns _ X.env) rfl)) fun D σ H ⟨w, en, R, p⟩ => ⟨w, en, R, (PostS.useD (R := ev G xo en) p).imp fun w1 H1 e1 sv le R1 q v T => ?_⟩
  obtain ⟨w2, od, le2, R2, r, q⟩ := q v T
  obtain ⟨xs0, e0, q⟩ := q.opt
  cases od with
  | ref n =>
    cases r with
    | @ref _ a h1 =>
      obtain ⟨vs0, ea0, _⟩ := R2.mem.cell _ _ a (cellL_at e0) h1
      refine ⟨.inl ⟨rfl, vs0, SqL.of ea0⟩, w2, e1, R2, (PostS.useD (R := ev G x e1) q).imp fun w3 H3 e3 sv3 le3 R3 q3 v3 T3 => ?_⟩
      obtain ⟨w4, d, le4, R4, r4, q4⟩ := q3 v3 T3
      obtain ⟨s4, es, q4⟩ := q4.opt
      have es : ((cellL (.ref n) e3.s).bind fun xs => if xs.length < lim then some (e3.s.set n (.lst (xs ++ [d]))) else none) = some s4 := es
      simp only [Option.bind_eq_some_iff] at es
      obtain ⟨xs, e5, es⟩ := es
      split at es
      · rename_i hl
        cases es
        have h4 := (le3.trans le4).2 _ _ h1
        have nI := List.mem_of_getElem? h4
        obtain ⟨vs, ea, rr⟩ := R4.mem.cell _ _ a (cellL_at e5) h4
        refine ⟨a, vs, v3, rfl, rfl, ea, by rw [rr.length, ← lim_eq]; exact hl, ?_⟩
        have m : Mem P w4 (upd H3 a (.lst (vs ++ [v3]))) (e3.s.set n (.lst (xs ++ [d]))) := R4.mem.setCell h4 ⟨_, upd_same, rr.append (.cons r4 .nil)⟩
        have Rn : Rep P w4 (upd H3 a (.lst (vs ++ [v3]))) σ ⟨e3.r, e3.s.set n (.lst (xs ++ [d]))⟩ :=
          R4.mono (.refl w4) m (fun i b y => upd_ne fun q => (R4.own i b y).2.2 (by rw [q]; exact nI)) fun i b y => ⟨(R4.own i b y).1, (R4.own i b y).2.2⟩
        exact q4.at Rn
      · cases es
  | _ => cases e0
theorem putF_new {f : Str} {v : V} : ∀ {fs : List (Str × V)}, f ∉ fs.map (·.1) → putF f v fs = fs ++ [(f, v)]
  | [], _ => rfl
  | (g, x) :: fs, h => by
    have hn : ¬ g = f := fun z => h (by rw [z]; exact List.mem_cons_self)
    show (if g = f then (g, v) :: fs else (g, x) :: putF f v fs) = _
    rw [if_neg hn, putF_new fun z => h (List.mem_cons_of_mem _ z)]
    rfl
theorem ss_setf (C : Cxt X P c.N sc W G c.gn c.bn k c.T) {i cl : Nat} {x : Ex} {y f z : Str} {e : Expr} {pos py apos : Pos} (hi : c.N[i]? = some y) (hv : Vis sc y) (hd : (y == ("__debug__" : Str)) = false) (hcd : (y == ("__classdict__" : Str)) = false) (he : PE X e (tE P W G x)) (hz : c.T.cn[cl]? = some z) (hna : (cl, f) ∈ c.T.na)
    (hs : swapsWith e (some (.Attribute (.Name y py) f apos)) pos.line X.env = pure false) : PS X (.Assign [.Attribute (.Name y py) f apos] e pos) (tS P W G (.setf i cl f x)) := by
  refine PS_imp (ps_fld (pe_var (i := i) (by rw [C.n]; exact hi) (by rw [C.scp]; exact hv) hd hcd) he hs) fun D σ H ⟨w, en, R, p⟩ => ⟨w, en, R, (PostS.useD (R := ev G x en) p).imp fun w1 H1 e1 sv le R1 q v T => ?_⟩
  obtain ⟨w2, d, le2, R2, r, q⟩ := q v T
  split at q
  · rename_i c' ns vs eg
    split at q
    · rename_i hc
      obtain ⟨rfl, hf, hl⟩ := hc
      obtain ⟨u, eu, a, dx, fs, rfl, ea, rfl, rr⟩ := R2.slot i _ eg
      refine ⟨.ref a, eu, a, _, dx, fs, rfl, ea, (C.ct.cls _ z hz).1.cls, C.ct.noat _ f hna, by rw [List.length_map] at hl; exact hl, ?_⟩
      rw [putF_new hf]
      refine q.at (R2.setOwn eg rfl eu ⟨a, dx, _, rfl, upd_same, ?_, ?_⟩)
      · rw [List.map_append]; rfl
      · rw [List.map_append]; exact rr.append (.cons r .nil)
    · exact q.elim
  · exact q.elim
theorem ss_aug (C : Cxt X P c.N sc W G c.gn c.bn k c.T) (hf : ∀ x, X.fn x = true) {i : Nat} {x : Ex} {y : Str} {e : Expr} {pos py : Pos} (hi : c.N[i]? = some y) (hl : L2.Loc sc y) (he : PE X e (tE P W G x)) : PS X (.AugAssign (.Name y py) .Add e pos) (tS P W G (.aug i .add x)) := by
  refine PS_imp (ps_aug (by rw [C.n]; exact C.nd) (by rw [C.n]; exact hi) (by rw [C.scp]; exact hl) he ip_add (.inl (hf y))) fun D σ H ⟨w, en, R, p⟩ => ?_
  have p : PostS P W w (match en.get i with
    | some (.v (.int a)) => (toD (ev G x en)).bind fun b e2 => (match b with
      | .int b => (Res.opt (binI .add a b) e2).bind fun k e3 => if i < e3.r.length then Res.ok Fl.nx (e3.set i (some (.v (.int k)))) else .bad
      | _ => .bad)
    | _ => .bad) _ := p
  cases eg : en.get i with
  | none => rw [eg] at p; exact p.elim
  | some s1 =>
    rw [eg] at p
    cases s1 with
    | v d0 =>
      cases d0 with
      | int a =>
        obtain ⟨u, eu, ru⟩ := R.slot i _ eg
        have ru : DRw P.L w u (.int a) := ru
        cases ru
        refine ⟨.int a, eu, w, en, R, (PostS.useD (R := ev G x en) p).imp fun w1 H1 e1 sv le R1 q v T => ?_⟩
        obtain ⟨w2, d, le2, R2, r, q⟩ := q v T
        cases d with
        | int b =>
          cases r
          have q : PostS P W w2 ((Res.opt (binI .add a b) e1).bind fun k e3 => if i < e3.r.length then Res.ok Fl.nx (e3.set i (some (.v (.int k)))) else .bad) _ := q
          obtain ⟨k, ek, q⟩ := q.opt
          cases ek
          split at q
          · rename_i hlt
            exact ⟨a, b, rfl, rfl, q.at (R2.store hlt (.v (.int _)))⟩
          · exact q.elim
        | _ => exact (show False from q).elim
      | _ => exact (show False from p).elim
    | _ => exact (show False from p).elim
end
end Ev

set_option Elab.async false
set_option linter.all false
set_option maxRecDepth 100000
set_option maxHeartbeats 4000000
namespace Ev
open PySem PySem.Spec PyProof.Rows L2

/-! ### looking at statements -/
def vAsg : Stmt → Option (Expr × Expr)
  | .Assign [t] e _ => some (t, e)
  | _ => none
theorem vAsg_ok {st : Stmt} {t e : Expr} (h : vAsg st = some (t, e)) : ∃ p, st = .Assign [t] e p := by
  unfold vAsg at h; split at h
  · cases h; exact ⟨_, rfl⟩
  · cases h
def vAug : Stmt → Option (Str × Expr)
  | .AugAssign (.Name y _) .Add e _ => some (y, e)
  | _ => none
theorem vAug_ok {st : Stmt} {y : Str} {e : Expr} (h : vAug st = some (y, e)) : ∃ q p, st = .AugAssign (.Name y q) .Add e p := by
  unfold vAug at h; split at h
  · cases h; exact ⟨_, _, rfl⟩
  · cases h
def vExp : Stmt → Option Expr
  | .Expr e _ => some e
  | _ => none
theorem vExp_ok {st : Stmt} {e : Expr} (h : vExp st = some e) : ∃ p, st = .Expr e p := by
  unfold vExp at h; split at h
  · cases h; exact ⟨_, rfl⟩
  · cases h
def vRet : Stmt → Option (Option Expr)
  | .Return e _ => some e
  | _ => none
theorem vRet_ok {st : Stmt} {e : Option Expr} (h : vRet st = some e) : ∃ p, st = .Return e p := by
  unfold vRet at h; split at h
  · cases h; exact ⟨_, rfl⟩
  · cases h
def vIfS : Stmt → Option (Expr × List Stmt × List Stmt)
  | .If e a b _ => some (e, a, b)
  | _ => none
theorem vIfS_ok {st : Stmt} {e : Expr} {a b : List Stmt} (h : vIfS st = some (e, a, b)) : ∃ p, st = .If e a b p := by
  unfold vIfS at h; split at h
  · cases h; exact ⟨_, rfl⟩
  · cases h
def vFor : Stmt → Option (Expr × Expr × List Stmt)
  | .For t i b [] _ => some (t, i, b)
  | _ => none
theorem vFor_ok {st : Stmt} {t i : Expr} {b : List Stmt} (h : vFor st = some (t, i, b)) : ∃ p, st = .For t i b [] p := by
  unfold vFor at h; split at h
  · cases h; exact ⟨_, rfl⟩
  · cases h
def vWhl : Stmt → Option (Expr × List Stmt)
  | .While e b [] _ => some (e, b)
  | _ => none
theorem vWhl_ok {st : Stmt} {e : Expr} {b : List Stmt} (h : vWhl st = some (e, b)) : ∃ p, st = .While e b [] p := by
  unfold vWhl at h; split at h
  · cases h; exact ⟨_, rfl⟩
  · cases h
def vApp : Expr → Option (Str × Expr)
  | .Call (.Attribute (.Name y _) m a) [e] [] p => if m = "append" ∧ (a.endLine == p.line) = true then some (y, e) else none
  | _ => none
theorem vApp_ok {x : Expr} {y : Str} {e : Expr} (h : vApp x = some (y, e)) : ∃ q a p, x = .Call (.Attribute (.Name y q) "append" a) [e] [] p ∧ (a.endLine == p.line) = true := by
  unfold vApp at h; split at h
  · split at h
    · rename_i hc
      cases h
      obtain ⟨rfl, hl⟩ := hc
      exact ⟨_, _, _, rfl, hl⟩
    · cases h
  · cases h
def vAppS : Expr → Option (Expr × Expr)
  | .Call (.Attribute (.Subscript o i q) m a) [e] [] p => if m = "append" ∧ (a.endLine == p.line) = true then some (.Subscript o i q, e) else none
  | _ => none
theorem vAppS_ok {x o e : Expr} (h : vAppS x = some (o, e)) : ∃ ob ix q a p, o = .Subscript ob ix q ∧ x = .Call (.Attribute (.Subscript ob ix q) "append" a) [e] [] p ∧ (a.endLine == p.line) = true := by
  unfold vAppS at h; split at h
  · split at h
    · rename_i hc
      cases h
      obtain ⟨rfl, hl⟩ := hc
      exact ⟨_, _, _, _, _, rfl, rfl, hl⟩
    · cases h
  · cases h
def noComp : Expr → Bool
  | .ListComp .. => false
  | .SetComp .. => false
  | .DictComp .. => false
  | _ => true
theorem swap_no {e : Expr} {t : Option Expr} {l : Nat} {env : PySem.Env} (h : noComp e = true) : swapsWith e t l env = pure false := by
  cases e <;> first | rfl | cases h
theorem swap_tup {e : Expr} {es : List Expr} {j : Nat} {p : Pos} {l : Nat} {env : PySem.Env} : swapsWith e (some (.Tuple es j p)) l env = pure false := by
  cases e <;> rfl
def swB (sc : Scope) (y : Str) (py : Pos) (ve : Pos) (scope : Scope) : Bool := sc.names.lookup y == some .local && py.line == ve.line && !(scope.names.any fun (n, k) => n == y && (k == .local || k == .cell))
theorem swap_lc {sc scope : Scope} {y : Str} {py pos : Pos} {elt : Expr} {gs : List Comprehension} {l : Nat} {env : PySem.Env} (hk : env.scope.kind = .function) (hs : env.scope = sc) :
    swapsWith (.ListComp elt gs scope pos) (some (.Name y py)) l env = pure (swB sc y py pos scope) := by
  have hb : env.blockKind = .function := by unfold Env.blockKind; rw [hk]; rfl
  have ky : env.kindOf y = sc.names.lookup y := by unfold Env.kindOf; rw [hs]
  unfold swapsWith swB
  simp only [hb, ky, Expr.pos]
  rfl
/-- the parallel store of two names -/
def parB (sc : Scope) (x y : Str) (px py : Pos) (a b : Expr) : Bool := sc.names.lookup x == some .local && sc.names.lookup y == some .local && px.line == py.line && decide (x ≠ y) && noStar a && noStar b && !([a, b].all (foldedForSure 8)) && !([a, b].all (constantsAlone 8))
theorem par_sw {sc : Scope} {x y : Str} {px py pt pt2 : Pos} {a b : Expr} {kt k2 : Nat} {env : PySem.Env} (hk : env.scope.kind = .function) (hs : env.scope = sc) (h : parB sc x y px py a b = true) :
    swappedStores [.Tuple [.Name x px, .Name y py] kt pt] (.Tuple [a, b] k2 pt2) env = pure (some [x, y]) := by
  have hb : env.blockKind = .function := by unfold Env.blockKind; rw [hk]; rfl
  unfold parB at h
  simp only [Bool.and_eq_true, beq_iff_eq, decide_eq_true_eq, Bool.not_eq_true'] at h
  obtain ⟨⟨⟨⟨⟨⟨⟨h1, h2⟩, h3⟩, h4⟩, h5⟩, h6⟩, h7⟩, h8⟩ := h
  have kx : env.kindOf x = some .local := by unfold Env.kindOf; rw [hs]; exact h1
  have ky : env.kindOf y = some .local := by unfold Env.kindOf; rw [hs]; exact h2
  have e1 : (px.line == px.line) = true := by simp
  have e2 : (py.line == px.line) = true := by rw [h3]; simp
  have key : swappedStores [.Tuple [.Name x px, .Name y py] kt pt] (.Tuple [a, b] k2 pt2) env = (if ([a, b].any fun | .Starred .. => true | _ => false) then pure none else pure (some [x, y]) : Sem (Option (List Str))) := by
    unfold swappedStores
    simp [hb, kx, ky, h7, h8, h3, h4, Ne.symm h4, List.eraseDups_cons, List.filterMap_cons, Expr.pos, List.all_cons] at h7 h8 ⊢
    rfl
  rw [key]
  have sa : ∀ e, noStar e = true → (match e with | .Starred .. => true | _ => false) = false := fun e h => by
    cases e <;> first | rfl | cases h
  rw [List.any_cons, List.any_cons, List.any_nil, sa a h5, sa b h6]
  rfl

/-! ### the checker of statements -/
def sing : Sm → Bool
  | .skip => false
  | .seq _ _ => false
  | _ => true
/-- names, attributes and places that a value is stored at -/
def parV : Expr → Expr → Option (Str × Pos × Str × Pos × Expr × Expr)
  | .Tuple [.Name x px, .Name y py] _ _, .Tuple [a, b] _ _ => some (x, px, y, py, a, b)
  | _, _ => none
theorem parV_ok {t e : Expr} {x y : Str} {px py : Pos} {a b : Expr} (h : parV t e = some (x, px, y, py, a, b)) : ∃ kt pt k2 pt2, t = .Tuple [.Name x px, .Name y py] kt pt ∧ e = .Tuple [a, b] k2 pt2 := by
  unfold parV at h; split at h
  · cases h; exact ⟨_, _, _, _, rfl, rfl⟩
  · cases h
def namePos : Expr → Option (Str × Pos)
  | .Name x p => some (x, p)
  | _ => none
theorem namePos_ok {e : Expr} {x : Str} {p : Pos} (h : namePos e = some (x, p)) : e = .Name x p := by
  unfold namePos at h; split at h
  · cases h; rfl
  · cases h
def subKey : Expr → Option (Expr × Str)
  | .Subscript o (.Constant (.str k) _ _) _ => some (o, k)
  | _ => none
theorem subKey_ok {e o : Expr} {k : Str} (h : subKey e = some (o, k)) : ∃ j p q, e = .Subscript o (.Constant (.str k) j p) q := by
  unfold subKey at h; split at h
  · cases h; exact ⟨_, _, _, rfl⟩
  · cases h
def subNm : Expr → Option (Str × Expr)
  | .Subscript (.Name y _) i _ => some (y, i)
  | _ => none
theorem subNm_ok {e i : Expr} {y : Str} (h : subNm e = some (y, i)) : ∃ p q, e = .Subscript (.Name y p) i q := by
  unfold subNm at h; split at h
  · cases h; exact ⟨_, _, rfl⟩
  · cases h
def attNm : Expr → Option (Str × Str)
  | .Attribute (.Name y _) f _ => some (y, f)
  | _ => none
theorem attNm_ok {e : Expr} {y f : Str} (h : attNm e = some (y, f)) : ∃ p q, e = .Attribute (.Name y p) f q := by
  unfold attNm at h; split at h
  · cases h; exact ⟨_, _, rfl⟩
  · cases h
def compPos : Expr → Option (Expr × Expr × Expr × List Expr × Scope × Pos)
  | .ListComp e [⟨t, i, fs, 0⟩] sc p => some (e, t, i, fs, sc, p)
  | _ => none
theorem compPos_ok {e el t i : Expr} {fs : List Expr} {sc : Scope} {p : Pos} (h : compPos e = some (el, t, i, fs, sc, p)) : e = .ListComp el [⟨t, i, fs, 0⟩] sc p := by
  unfold compPos at h; split at h
  · cases h; rfl
  · cases h
def isComp : Ex → Bool
  | .comp .. => true
  | _ => false
def nmB (c : Chk) (sc : Scope) (i : Nat) (y : Str) : Bool := decide (c.N[i]? = some y) && visB sc y && notDbg y
def one (sts : List Stmt) (f : Stmt → Bool) : Bool := match sts with
  | [st] => f st
  | _ => false
theorem one_ok {sts : List Stmt} {f : Stmt → Bool} (h : one sts f = true) : ∃ st, sts = [st] ∧ f st = true := by
  unfold one at h; split at h
  · exact ⟨_, rfl, h⟩
  · cases h
def okS (c : Chk) (sc : Scope) : Sm → List Stmt → Bool
  | .skip, sts => sts.isEmpty
  | .seq a b, sts => (match sts with
    | st :: rest => sing a && okS c sc a [st] && okS c sc b rest
    | [] => false)
  | .asg t x, sts => one sts fun st => (match vAsg st with
    | some (tg, e) => okT c.N sc (fun _ => true) t tg && (noComp e || (vTup tg).isSome) && ((vName tg).isSome || (vTup e).isNone) && ok c x .e sc [e]
    | none => false)
  | .own i x, sts => one sts fun st => (match vAsg st with
    | some (tg, e) => (match namePos tg with
      | some (y, py) => decide (c.N[i]? = some y) && locB sc y && ok c x .e sc [e] && (match compPos e with
        | some (el, t, it, fs, scope, p) => isComp x
        | none => noComp e)
      | none => false)
    | none => false)
  | .par i j a b, sts => one sts fun st => (match vAsg st with
    | some (tg, e) => (match parV tg e with
      | some (x, px, y, py, ea, eb) => parB sc x y px py ea eb && decide (c.N[i]? = some x) && decide (c.N[j]? = some y) && decide (i ≠ j) && (ok c a .e sc [ea] && ok c b .e sc [eb])
      | none => false)
    | none => false)
  | .setk o k x, sts => one sts fun st => (match vAsg st with
    | some (tg, e) => (match subKey tg with
      | some (eo, z) => decide (z = k) && noComp e && (ok c o .e sc [eo] && ok c x .e sc [e])
      | none => false)
    | none => false)
  | .seti i ix x, sts => one sts fun st => (match vAsg st with
    | some (tg, e) => (match subNm tg with
      | some (y, ei) => nmB c sc i y && noSlice ei && noComp e && (ok c ix .e sc [ei] && ok c x .e sc [e])
      | none => false)
    | none => false)
  | .setf _ _ _ _, _ => false
  | .aug i op x, sts => one sts fun st => (match vAug st with
    | some (y, e) => decide (op = .add) && decide (c.N[i]? = some y) && locB sc y && ok c x .e sc [e]
    | none => false)
  | .app i x, sts => one sts fun st => (match (vExp st).bind vApp with
    | some (y, e) => nmB c sc i y && noStar e && ok c x .e sc [e]
    | none => false)
  | .appc o x, sts => one sts fun st => (match (vExp st).bind vAppS with
    | some (eo, e) => noStar e && (ok c o .e sc [eo] && ok c x .e sc [e])
    | none => false)
  | .ex x, sts => one sts fun st => (match vExp st with
    | some e => noComp e && ok c x .e sc [e]
    | none => false)
  | .ret x, sts => one sts fun st => (match vRet st with
    | some (some e) => ok c x .e sc [e]
    | _ => false)
  | .retn, sts => one sts fun st => (match vRet st with
    | some none => true
    | _ => false)
  | .ite t a b, sts => one sts fun st => (match vIfS st with
    | some (e, sa, sb) => ok c t .t sc [e] && (okS c sc a sa && okS c sc b sb)
    | none => false)
  | .for_ t x b, sts => one sts fun st => (match vFor st with
    | some (tg, it, body) => okT c.N sc (fun _ => true) t tg && ok c x (.i (isTupE tg)) sc [it] && okS c sc b body
    | none => false)
  | .whl _ t b, sts => one sts fun st => (match vWhl st with
    | some (e, body) => ok c t .t sc [e] && okS c sc b body
    | none => false)
  | .brk, sts => one sts fun st => (match st with | .Break _ => true | _ => false)
  | .cont, sts => one sts fun st => (match st with | .Continue _ => true | _ => false)
/-- the stores of an __init__ -/
def okI (c : Chk) (sc : Scope) (cl : Nat) : List (Str × Ex) → List Stmt → Bool
  | [], [] => true
  | (f, x) :: r, st :: sts => (match vAsg st with
    | some (tg, e) => (match attNm tg with
      | some (y, g) => decide (f = g) && nmB c sc 0 y && noComp e && decide (cl < c.T.cn.length) && decide ((cl, f) ∈ c.T.na) && ok c x .e sc [e]
      | none => false)
    | none => false) && okI c sc cl r sts
  | _, _ => false
end Ev

set_option Elab.async false
set_option linter.all false
set_option maxRecDepth 100000
set_option maxHeartbeats 4000000
namespace Ev
open PySem PySem.Spec PyProof.Rows L2

def HoldsS (X : Cx) (P : Pm) (W : XK) (G : List Fn) (s : Sm) (sts : List Stmt) : Prop := PSs X sts (tS P W G s) ∧ ∀ st, sts = [st] → sing s = true → PS X st (tS P W G s)
section
variable {X : Cx} {P : Pm} {W : XK} {G : List Fn} {sc : Scope} {k : Nat} {c : Chk}
theorem oneS {s : Sm} {st : Stmt} (h : PS X st (tS P W G s)) : HoldsS X P W G s [st] := ⟨pss_one h, fun st' e _ => by cases e; exact h⟩
theorem nmB_ok (h : nmB c sc i y = true) : c.N[i]? = some y ∧ Vis sc y ∧ (y == ("__debug__" : Str)) = false ∧ (y == ("__classdict__" : Str)) = false := by
  unfold nmB at h
  obtain ⟨h, h3⟩ := and2 h
  obtain ⟨h1, h2⟩ := and2 h
  obtain ⟨d1, d2⟩ := dbg_of h3
  exact ⟨of_decide_eq_true h1, vis_of h2, d1, d2⟩
theorem okT_def (C : Cxt X P c.N sc W G c.gn c.bn k c.T) (S : StmOk X) {t : Tg} {tg : Expr} (h : okT c.N sc (fun _ => true) t tg = true) : PG X tg (gOf X.K t) := by
  refine tg_ok (sc := sc) C.n C.nd C.calm (fun x hx => ?_) t h
  rw [C.scp]
  split at hx
  · rename_i e; exact ⟨.inl e, .inr e⟩
  · rename_i e; exact ⟨.inr e, .inl (S.fn x)⟩
  · cases hx
end
structure StmOk2 (X : Cx) : Prop where
  s : StmOk X
  kind : X.env.scope.kind = .function

theorem masS (c : Chk) (G : List Fn) (hng : c.ng = G.length) (s : Sm) : ∀ {X : Cx} {P : Pm} {W : XK} {sc : Scope} {k : Nat} {sts : List Stmt}, Cxt X P c.N sc W G c.gn c.bn k c.T → StmOk2 X → okS c sc s sts = true → HoldsS X P W G s sts := by
  induction s with
  | skip =>
    intro X P W sc k sts C S h
    have e := List.isEmpty_iff.mp (show sts.isEmpty = true from h)
    subst e
    exact ⟨ss_skip, fun st e => by cases e⟩
  | seq a b iha ihb =>
    intro X P W sc k sts C S h
    cases sts with
    | nil => cases h
    | cons st rest =>
      obtain ⟨h1, h2⟩ := and2 (show (sing a && okS c sc a [st] && okS c sc b rest) = true from h)
      obtain ⟨h0, h1⟩ := and2 h1
      exact ⟨ss_seq ((iha C S h1).2 st rfl h0) (ihb C S h2).1, fun _ _ z => by cases z⟩
  | asg t x =>
    intro X P W sc k sts C S h
    unfold okS at h
    obtain ⟨st, e0, h0⟩ := one_ok h
    clear h
    subst e0
    have h := h0
    clear h0
    cases hv : vAsg st with
    | none => simp [hv] at h
    | some q =>
      obtain ⟨tg, e⟩ := q
      simp only [hv] at h
      obtain ⟨h, h4⟩ := and2 h
      obtain ⟨h, h3⟩ := and2 h
      obtain ⟨h1, h2⟩ := and2 h
      obtain ⟨p, rfl⟩ := vAsg_ok hv
      refine oneS (ss_asg C (holdsE (mas c G hng x C h4)) (okT_def C S.s h1) ?_ ?_ ?_)
      · rcases Bool.or_eq_true_iff.mp h2 with z | z
        · exact swap_no z
        · cases ht : vTup tg with
          | none => rw [ht] at z; cases z
          | some es =>
            obtain ⟨j, q, rfl⟩ := vTup_ok ht
            exact swap_tup (e := e) (es := es) (j := j) (p := q) (l := p.line) (env := X.env)
      · have hn : noStar tg = true := okT_star h1
        rcases Bool.or_eq_true_iff.mp h3 with z | z
        · cases ht : vName tg with
          | none => rw [ht] at z; cases z
          | some y =>
            obtain ⟨q, rfl⟩ := vName_ok ht
            rfl
        · cases ht : vTup tg with
          | none => cases tg <;> first | rfl | (cases ht; done) | (cases e <;> first | rfl | (cases z; done))
          | some es =>
            obtain ⟨j, q, rfl⟩ := vTup_ok ht
            cases e <;> first | rfl | (cases z; done)
      · rw [each_one (okT_star h1)]; rfl
  | own i x =>
    intro X P W sc k sts C S h
    unfold okS at h
    obtain ⟨st, e0, h0⟩ := one_ok h
    clear h
    subst e0
    have h := h0
    clear h0
    cases hv : vAsg st with
    | none => simp [hv] at h
    | some q =>
      obtain ⟨tg, e⟩ := q
      simp only [hv] at h
      cases hp : namePos tg with
      | none => simp [hp] at h
      | some q2 =>
        obtain ⟨y, py⟩ := q2
        simp only [hp] at h
        obtain ⟨h, h4⟩ := and2 h
        obtain ⟨h, h3⟩ := and2 h
        obtain ⟨h1, h2⟩ := and2 h
        obtain ⟨p, rfl⟩ := vAsg_ok hv
        have et := namePos_ok hp
        subst et
        have hE := holdsE (mas c G hng x C h3)
        cases hc : compPos e with
        | none =>
          simp only [hc] at h4
          exact oneS (ss_own C (of_decide_eq_true h1) (loc_of h2) S.s.fn hE (swap_no h4))
        | some q3 =>
          obtain ⟨el, t, it, fs, scope, cp⟩ := q3
          simp only [hc] at h4
          have ee := compPos_ok hc
          subst ee
          have sw := swap_lc (elt := el) (gs := [⟨t, it, fs, 0⟩]) (scope := scope) (pos := cp) (y := y) (py := py) (l := p.line) S.kind C.scp
          cases hb : swB sc y py cp scope with
          | false =>
            rw [hb] at sw
            exact oneS (ss_own C (of_decide_eq_true h1) (loc_of h2) S.s.fn hE sw)
          | true =>
            rw [hb] at sw
            have hl : sc.names.lookup y = some .local := by
              unfold swB at hb
              simp only [Bool.and_eq_true, beq_iff_eq] at hb
              exact hb.1.1
            cases x with
            | comp own tt xi xc xe =>
              exact oneS (ss_ownLc C (of_decide_eq_true h1) hl (parts_ok C (fun C h => mas c G hng xi C h) (fun C h => mas c G hng xc C h) (fun C h => mas c G hng xe C h) h3) sw)
            | _ => cases h4
  | par i j a b =>
    intro X P W sc k sts C S h
    unfold okS at h
    obtain ⟨st, e0, h0⟩ := one_ok h
    clear h
    subst e0
    have h := h0
    clear h0
    cases hv : vAsg st with
    | none => simp [hv] at h
    | some q =>
      obtain ⟨tg, e⟩ := q
      simp only [hv] at h
      cases hp : parV tg e with
      | none => simp [hp] at h
      | some q2 =>
        obtain ⟨x, px, y, py, ea, eb⟩ := q2
        simp only [hp] at h
        obtain ⟨h, h5⟩ := and2 h
        obtain ⟨h, h4⟩ := and2 h
        obtain ⟨h, h3⟩ := and2 h
        obtain ⟨h1, h2⟩ := and2 h
        obtain ⟨h5, h6⟩ := and2 h5
        obtain ⟨p, rfl⟩ := vAsg_ok hv
        obtain ⟨kt, pt, k2, pt2, rfl, rfl⟩ := parV_ok hp
        have hq := h1
        unfold parB at hq
        simp only [Bool.and_eq_true, beq_iff_eq, decide_eq_true_eq] at hq
        obtain ⟨⟨⟨⟨⟨⟨⟨q1, q2⟩, q3⟩, q4⟩, q5⟩, q6⟩, q7⟩, q8⟩ := hq
        exact oneS (ss_par C (of_decide_eq_true h2) (of_decide_eq_true h3) (of_decide_eq_true h4) q1 q2 (holdsE (mas c G hng a C h5)) (holdsE (mas c G hng b C h6)) q5 q6 (par_sw S.kind C.scp h1))
  | setk o z x =>
    intro X P W sc k sts C S h
    unfold okS at h
    obtain ⟨st, e0, h0⟩ := one_ok h
    clear h
    subst e0
    have h := h0
    clear h0
    cases hv : vAsg st with
    | none => simp [hv] at h
    | some q =>
      obtain ⟨tg, e⟩ := q
      simp only [hv] at h
      cases hp : subKey tg with
      | none => simp [hp] at h
      | some q2 =>
        obtain ⟨eo, z'⟩ := q2
        simp only [hp] at h
        obtain ⟨h, h3⟩ := and2 h
        obtain ⟨h1, h2⟩ := and2 h
        obtain ⟨h3, h4⟩ := and2 h3
        obtain ⟨p, rfl⟩ := vAsg_ok hv
        obtain ⟨j, p1, q1, rfl⟩ := subKey_ok hp
        have ez : z' = z := of_decide_eq_true h1
        subst ez
        exact oneS (ss_setk C (holdsE (mas c G hng o C h3)) (holdsE (mas c G hng x C h4)) (swap_no h2))
  | seti i ix x =>
    intro X P W sc k sts C S h
    unfold okS at h
    obtain ⟨st, e0, h0⟩ := one_ok h
    clear h
    subst e0
    have h := h0
    clear h0
    cases hv : vAsg st with
    | none => simp [hv] at h
    | some q =>
      obtain ⟨tg, e⟩ := q
      simp only [hv] at h
      cases hp : subNm tg with
      | none => simp [hp] at h
      | some q2 =>
        obtain ⟨y, ei⟩ := q2
        simp only [hp] at h
        obtain ⟨h, h4⟩ := and2 h
        obtain ⟨h, h3⟩ := and2 h
        obtain ⟨h1, h2⟩ := and2 h
        obtain ⟨h4, h5⟩ := and2 h4
        obtain ⟨p, rfl⟩ := vAsg_ok hv
        obtain ⟨p1, q1, rfl⟩ := subNm_ok hp
        obtain ⟨n1, n2, n3, n4⟩ := nmB_ok h1
        refine oneS (ss_seti C n1 n2 n3 n4 (holdsE (mas c G hng ix C h4)) (holdsE (mas c G hng x C h5)) h2 (by unfold swapsWithSole; exact swap_no h3) ?_)
        rfl
  | setf i cl f x =>
    intro X P W sc k sts C S h
    unfold okS at h
    cases h
  | aug i op x =>
    intro X P W sc k sts C S h
    unfold okS at h
    obtain ⟨st, e0, h0⟩ := one_ok h
    clear h
    subst e0
    have h := h0
    clear h0
    cases hv : vAug st with
    | none => simp [hv] at h
    | some q =>
      obtain ⟨y, e⟩ := q
      simp only [hv] at h
      obtain ⟨h, h3⟩ := and2 h
      obtain ⟨h, h2⟩ := and2 h
      obtain ⟨h0, h1⟩ := and2 h
      have eo : op = .add := of_decide_eq_true h0
      subst eo
      obtain ⟨q, p, rfl⟩ := vAug_ok hv
      exact oneS (ss_aug C S.s.fn (of_decide_eq_true h1) (loc_of h2) (holdsE (mas c G hng x C h3)))
  | app i x =>
    intro X P W sc k sts C S h
    unfold okS at h
    obtain ⟨st, e0, h0⟩ := one_ok h
    clear h
    subst e0
    have h := h0
    clear h0
    cases hv : (vExp st).bind vApp with
    | none => simp [hv] at h
    | some q =>
      obtain ⟨y, e⟩ := q
      simp only [hv] at h
      obtain ⟨h, h3⟩ := and2 h
      obtain ⟨h1, h2⟩ := and2 h
      simp only [Option.bind_eq_some_iff] at hv
      obtain ⟨ex, hv1, hv2⟩ := hv
      obtain ⟨p, rfl⟩ := vExp_ok hv1
      obtain ⟨q, a, p', rfl, hl⟩ := vApp_ok hv2
      obtain ⟨n1, n2, n3, n4⟩ := nmB_ok h1
      exact oneS (ss_app C n1 n2 n3 n4 (holdsE (mas c G hng x C h3)) h2 hl)
  | appc o x =>
    intro X P W sc k sts C S h
    unfold okS at h
    obtain ⟨st, e0, h0⟩ := one_ok h
    clear h
    subst e0
    have h := h0
    clear h0
    cases hv : (vExp st).bind vAppS with
    | none => simp [hv] at h
    | some q =>
      obtain ⟨eo, e⟩ := q
      simp only [hv] at h
      obtain ⟨h1, h⟩ := and2 h
      obtain ⟨h2, h3⟩ := and2 h
      simp only [Option.bind_eq_some_iff] at hv
      obtain ⟨ex, hv1, hv2⟩ := hv
      obtain ⟨p, rfl⟩ := vExp_ok hv1
      obtain ⟨ob, ix, q, a, p', rfl, rfl, hl⟩ := vAppS_ok hv2
      exact oneS (ss_appc C (holdsE (mas c G hng o C h2)) (holdsE (mas c G hng x C h3)) h1 hl)
  | ex x =>
    intro X P W sc k sts C S h
    unfold okS at h
    obtain ⟨st, e0, h0⟩ := one_ok h
    clear h
    subst e0
    have h := h0
    clear h0
    cases hv : vExp st with
    | none => simp [hv] at h
    | some e =>
      simp only [hv] at h
      obtain ⟨h1, h2⟩ := and2 h
      obtain ⟨p, rfl⟩ := vExp_ok hv
      exact oneS (ss_ex (holdsE (mas c G hng x C h2)) (swap_no h1))
  | ret x =>
    intro X P W sc k sts C S h
    unfold okS at h
    obtain ⟨st, e0, h0⟩ := one_ok h
    clear h
    subst e0
    have h := h0
    clear h0
    cases hv : vRet st with
    | none => simp [hv] at h
    | some e =>
      cases e with
      | none => simp [hv] at h
      | some e =>
        simp only [hv] at h
        obtain ⟨p, rfl⟩ := vRet_ok hv
        exact oneS (ss_ret (holdsE (mas c G hng x C h)))
  | retn =>
    intro X P W sc k sts C S h
    unfold okS at h
    obtain ⟨st, e0, h0⟩ := one_ok h
    clear h
    subst e0
    have h := h0
    clear h0
    cases hv : vRet st with
    | none => simp [hv] at h
    | some e =>
      cases e with
      | some e => simp [hv] at h
      | none =>
        obtain ⟨p, rfl⟩ := vRet_ok hv
        exact oneS ss_retn
  | ite t a b iha ihb =>
    intro X P W sc k sts C S h
    unfold okS at h
    obtain ⟨st, e0, h0⟩ := one_ok h
    clear h
    subst e0
    have h := h0
    clear h0
    cases hv : vIfS st with
    | none => simp [hv] at h
    | some q =>
      obtain ⟨e, sa, sb⟩ := q
      simp only [hv] at h
      obtain ⟨h1, h2⟩ := and2 h
      obtain ⟨h2, h3⟩ := and2 h2
      obtain ⟨p, rfl⟩ := vIfS_ok hv
      exact oneS (ss_ite (holdsT (mas c G hng t C h1)).1 (iha C S h2).1 (ihb C S h3).1)
  | for_ t x b ihb =>
    intro X P W sc k sts C S h
    unfold okS at h
    obtain ⟨st, e0, h0⟩ := one_ok h
    clear h
    subst e0
    have h := h0
    clear h0
    cases hv : vFor st with
    | none => simp [hv] at h
    | some q =>
      obtain ⟨tg, it, body⟩ := q
      simp only [hv] at h
      obtain ⟨h, h3⟩ := and2 h
      obtain ⟨h1, h2⟩ := and2 h
      obtain ⟨p, rfl⟩ := vFor_ok hv
      obtain ⟨n, pi⟩ := holdsI (mas c G hng x C h2)
      refine oneS (ss_for C S.s (pi tg fun hb => ?_) (okT_def C S.s h1) (ihb C S h3).1 n)
      unfold isTupE at hb
      cases hv : vTup tg with
      | none => rw [hv] at hb; cases hb
      | some es =>
        obtain ⟨j, p, rfl⟩ := vTup_ok hv
        exact ⟨es, j, p, rfl⟩
  | whl n t b ihb =>
    intro X P W sc k sts C S h
    unfold okS at h
    obtain ⟨st, e0, h0⟩ := one_ok h
    clear h
    subst e0
    have h := h0
    clear h0
    cases hv : vWhl st with
    | none => simp [hv] at h
    | some q =>
      obtain ⟨e, body⟩ := q
      simp only [hv] at h
      obtain ⟨h1, h2⟩ := and2 h
      obtain ⟨p, rfl⟩ := vWhl_ok hv
      exact oneS (ss_whl S.s (holdsT (mas c G hng t C h1)).1 (ihb C S h2).1)
  | brk =>
    intro X P W sc k sts C S h
    unfold okS at h
    obtain ⟨st, e0, h0⟩ := one_ok h
    clear h
    subst e0
    have h := h0
    clear h0
    cases st <;> first | exact oneS ss_brk | cases h
  | cont =>
    intro X P W sc k sts C S h
    unfold okS at h
    obtain ⟨st, e0, h0⟩ := one_ok h
    clear h
    subst e0
    have h := h0
    clear h0
    cases st <;> first | exact oneS ss_cont | cases h
end Ev

set_option Elab.async false
set_option linter.all false
set_option maxRecDepth 100000
set_option maxHeartbeats 4000000
namespace Ev
open PySem PySem.Spec PyProof.Rows L2

/-- what is known of the text, whichever body runs -/
structure Gk (Pr : Program) (wo : World) (K : PySem.W.Frag) (mg : Str → Option Value) (base : Heap) (L : Lk) (k : Nat) (G : List Fn) (gn bn : List Str) (T : ClsT) : Prop where
  hK : K = L.K
  bfree : ∀ x ∈ bn, mg x = none
  fns : ∀ (X : Cx), X.prog = Pr → X.w = wo → X.K = K → X.mg = mg → X.base = base → ∀ (g : Nat) (f : Fn) (x : Str), G[g]? = some f → gn[g]? = some x → x ≠ "" → FnAt X L k g x f
  ct : ∀ (X : Cx), X.prog = Pr → X.w = wo → X.K = K → X.mg = mg → X.base = base → CT X L k G T

section
variable {Pr : Program} {wo : World} {K : PySem.W.Frag} {mg : Str → Option Value} {base : Heap} {x qual : Str} {params : Arguments} {body : List Stmt} {scope : Scope} {f : Addr} {fd : FuncData} {N ps : List Str} {k : Nat} {sp : Sp}
/-- THE RULE for a def where no repr runs around the call -/
theorem fn_g (F : FunD K x qual params body scope [] [] f fd) (S : FnScope N ps scope) (ln : ∀ vs H Q E, sp vs H Q E → vs.length = ps.length)
    (hb : ∀ (cdv : Value) (A : Around) (outer : List PySem.Env) (s : Shared) (H : Hp) (vs : List V) (Q : VK) (E : XK), A.guards = some [] → Room k (A.deeper (envOfC qual scope s.heap.objs.size f cdv)) → sp vs H Q E →
      ∃ t, PSs (cxOf (L2.CX Pr wo) Pr wo K mg base N qual scope f cdv A outer s H E) body t ∧ t { nx := fun _ H' => Q .non H', rt := Q } (start N vs) H) : FnG Pr wo K mg base (k + 1) f fd ps sp := by
  obtain ⟨oc, od, dV, kV, doc, pm, an, cdv, ct, osl, rfl, lk, hcd, _, _⟩ := F.ex
  refine ⟨ln, fun {A outer s H args us vs Q E} hg hr e0 bt r hsp => ?_⟩
  have KX : K.In s.heap := e0.mod.kin.keeps fun b o e => (e0.bs b o e).1
  have nl : s.heap.NoLimit := e0.mod.nolimit.keeps fun b o e => (e0.bs b o e).1
  refine codeAny_call_function hr.depth (KX _ _ lk) rfl S.co S.gen rfl (PySem.W.codeRec_of KX hcd) (bt _ _ _ _ (wpAny_newFunctionEnv_cells S.kind (fun y hy => ?_) fun env he s1 z => ?_))
  · obtain ⟨n, v⟩ := y
    rcases S.par n (List.of_mem_zip hy).1 with q | q
    · exact .inl q
    · exact .inr ⟨q, PySem.W.cellsFrom_some _ _ _ (.inl q)⟩
  · subst he
    refine ⟨nl.keeps z.toInCall.keep, codeAny_func ?_⟩
    obtain ⟨t, ht, hq⟩ := hb cdv A outer s H vs Q E hg (hr.deeper _) hsp
    have I := inv_start (CX := L2.CX Pr wo) (E := E) S hr.hd e0 (ln _ _ _ _ hsp) r z
    refine wpAny_mono (ht.run [] s1 (start N vs) H _ I hq) (fun fl s' hs => ?_) fun e s' hs => hs
    cases fl with
    | ret u =>
      obtain ⟨v, σ', H', J, rv, q⟩ := hs
      exact ⟨v, H', J.os, J.bare, J.base, J.hok, rv, q⟩
    | next =>
      obtain ⟨σ', H', J, q⟩ := hs
      exact ⟨.non, H', J.os, J.bare, J.base, J.hok, rfl, q⟩
    | brk => obtain ⟨_, _, _, q⟩ := hs; exact q.elim
    | cont => obtain ⟨_, _, _, q⟩ := hs; exact q.elim
end
theorem deeper_grd {A : Around} {env : PySem.Env} (h : A.guards = some []) : (A.deeper env).guards = some [] := by
  first
    | exact h
    | (unfold Around.deeper; simpa using h)
    | (show pushGuards _ A.guards = some []; rw [h]; rfl)
section
variable {Pr : Program} {wo : World} {K : PySem.W.Frag} {mg : Str → Option Value} {base : Heap} {L : Lk} {k : Nat} {G : List Fn} {c : Chk}
/-- the context of a def's body -/
theorem Gk.cxt (Z : Gk Pr wo K mg base L k G c.gn c.bn c.T) (nd : c.N.Nodup) {P : Pm} (hL : P.L = L) {qual : Str} {scope : Scope} {f : Addr} {cdv : Value} {A : Around} {outer : List PySem.Env} {s : Shared} {H : Hp} {E : XK} (hg : A.guards = some []) (hr : Room k (A.deeper (envOfC qual scope s.heap.objs.size f cdv))) :
    Cxt (cxOf (L2.CX Pr wo) Pr wo K mg base c.N qual scope f cdv A outer s H E) P c.N scope E G c.gn c.bn k c.T := by
  refine ⟨by rw [hL]; exact Z.hK, rfl, nd, rfl, rfl, ?_, hr, deeper_grd hg, Z.bfree, ?_, ?_⟩
  · exact takes_of rfl rfl rfl rfl
  · rw [hL]; exact Z.fns _ rfl rfl rfl rfl rfl
  · rw [hL]; exact Z.ct _ rfl rfl rfl rfl rfl
theorem stm_cx {N : List Str} {qual : Str} {scope : Scope} (hk : scope.kind = .function) {f : Addr} {cdv : Value} {A : Around} {outer : List PySem.Env} {s : Shared} {H : Hp} {E : XK} : StmOk2 (cxOf (L2.CX Pr wo) Pr wo K mg base N qual scope f cdv A outer s H E) :=
  ⟨⟨passes_of rfl, fun _ => rfl⟩, hk⟩
theorem start_get {N : List Str} {vs : List V} {i : Nat} {v : V} (h : vs[i]? = some v) : (start N vs)[i]? = some (some v) := by
  unfold L2.start
  have hi := (List.getElem?_eq_some_iff.mp h).1
  rw [List.getElem?_append_left (by simpa using hi), List.getElem?_map, h]
  rfl
theorem slots_get {ds : List D} {n i : Nat} {sv : SV} {S : Store} (h : Env.get ⟨ds.map (fun d => some (SV.v d)) ++ List.replicate n none, S⟩ i = some sv) : ∃ d, ds[i]? = some d ∧ sv = .v d := by
  unfold Env.get at h
  by_cases hi : i < ds.length
  · rw [List.getElem?_append_left (by simpa using hi), List.getElem?_map, List.getElem?_eq_getElem hi] at h
    exact ⟨ds[i], List.getElem?_eq_getElem hi, by cases h; rfl⟩
  · rw [List.getElem?_append_right (by simpa using hi), List.getElem?_replicate] at h
    split at h <;> cases h
/-- a def's entry -/
theorem Rep.entry {P : Pm} {w : Wd} {H : Hp} {S : Store} (m : Mem P w H S) {vs : List V} {ds : List D} (r : DRsw P.L w vs ds) {N : List Str} {np : Nat} (hn : ds.length = np) (hN : np ≤ N.length) :
    Rep P w H (start N vs) ⟨ds.map (fun d => some (SV.v d)) ++ List.replicate (N.length - np) none, S⟩ := by
  have hl := r.length
  have no : ∀ i a, ¬ Owns ⟨ds.map (fun d => some (SV.v d)) ++ List.replicate (N.length - np) none, S⟩ (start N vs) i a := fun i a ⟨sv, e, ho, _⟩ => by
    obtain ⟨d, _, rfl⟩ := slots_get e
    cases ho
  refine ⟨m, ?_, fun i sv e => ?_, fun i a z => (no i a z).elim, fun i j a z _ => (no i a z).elim⟩
  · unfold L2.start
    show (ds.map _ ++ List.replicate _ _).length = _
    rw [List.length_append, List.length_append, List.length_map, List.length_map, List.length_replicate, List.length_replicate, hl, hn]
  · obtain ⟨d, ed, rfl⟩ := slots_get e
    obtain ⟨v, ev, rv⟩ := DRs.get r ed
    exact ⟨v, start_get ev, rv⟩
theorem spOf_len {f : Fn} {np : Nat} (hf : ∀ ds S, f ds S ≠ .bad → ds.length = np) {vs : List V} {H : Hp} {Q : VK} {E : XK} (h : spOf L f vs H Q E) : vs.length = np := by
  obtain ⟨w, ds, S, m, r, q⟩ := h
  rw [r.length]
  refine hf ds S fun e => ?_
  rw [e] at q
  exact q
theorem fnS_len {np n : Nat} {b : Sm} (ds : List D) (S : Store) (h : fnS G np n b ds S ≠ .bad) : ds.length = np := by
  by_cases e : ds.length = np
  · exact e
  · exact absurd (by unfold fnS; rw [if_neg e]) h
/-- a def of the text does what its function says -/
theorem fn_ok (Z : Gk Pr wo K mg base L k G c.gn c.bn c.T) (hng : c.ng = G.length) {x qual : Str} {params : Arguments} {body : List Stmt} {scope : Scope} {f : Addr} {fd : FuncData} {ps : List Str} (F : FunD K x qual params body scope [] [] f fd) (S : FnScope c.N ps scope) {b : Sm} (hc : okS c scope b body = true) :
    FnG Pr wo K mg base (k + 1) f fd ps (spOf L (fnS G ps.length c.N.length b)) := by
  have hpl : ps.length ≤ c.N.length := by have := congrArg List.length S.pre; rw [List.length_take] at this; omega
  refine fn_g F S (fun vs H Q E h => spOf_len (np := ps.length) (fun ds S h => fnS_len ds S h) h) fun cdv A outer s H vs Q E hg hr h => ?_
  obtain ⟨w, ds, St, m, r, q⟩ := h
  have C := Z.cxt S.nd (P := ⟨L, H, w.F, w.I⟩) rfl (qual := qual) (scope := scope) (f := f) (cdv := cdv) (A := A) (outer := outer) (s := s) (H := H) (E := E) hg hr
  refine ⟨_, (masS c G hng b C (stm_cx S.kind) hc).1, ?_⟩
  by_cases hn : ds.length = ps.length
  case neg =>
    have e : fnS G ps.length c.N.length b ds St = .bad := by unfold fnS; rw [if_neg hn]
    rw [e] at q
    exact q.elim
  have e0 : fnS G ps.length c.N.length b ds St = finS (evS G b ⟨ds.map (fun d => some (SV.v d)) ++ List.replicate (c.N.length - ps.length) none, St⟩) := by unfold fnS; rw [if_pos hn]
  rw [e0] at q
  refine ⟨w, _, Rep.entry m r hn hpl, ?_⟩
  cases e : evS G b ⟨ds.map (fun d => some (SV.v d)) ++ List.replicate (c.N.length - ps.length) none, St⟩ with
  | ok fl en =>
    rw [e] at q
    intro w' H' σ' le R'
    cases fl with
    | nx => exact q .non w' H' le R'.mem .non
    | rt d => exact fun v rv => q v w' H' le R'.mem rv
    | bk => exact q.elim
    | ct => exact q.elim
  | err y S' => rw [e] at q; exact q
  | bad => rw [e] at q; exact q
/-! ### __init__ -/
/-- the stores of an __init__, the slots as they stand -/
def tI (P : Pm) (W : XK) (G : List Fn) (cl : Nat) (b : List (Str × Ex)) : TS := fun D σ H => ∃ w en, Rep P w H σ en ∧ PostG P W σ w (evI G cl b en) fun _ H' _ _ => D.nx σ H'
theorem init_ok (hng : c.ng = G.length) {X : Cx} {P : Pm} {W : XK} {sc : Scope} {cl : Nat} (C : Cxt X P c.N sc W G c.gn c.bn k c.T) : ∀ (b : List (Str × Ex)) {sts : List Stmt}, okI c sc cl b sts = true → PSs X sts (tI P W G cl b)
  | [], [], _ => PSs_imp pss_nil fun D σ H ⟨w, en, R, p⟩ => (p : PostG P W σ w (.ok () en) _).at R
  | [], _ :: _, h => by cases h
  | _ :: _, [], h => by cases h
  | (f, x) :: r, st :: sts, h => by
    obtain ⟨h, hr⟩ := and2 (show ((match vAsg st with
      | some (tg, e) => (match attNm tg with
        | some (y, g) => decide (f = g) && nmB c sc 0 y && noComp e && decide (cl < c.T.cn.length) && decide ((cl, f) ∈ c.T.na) && ok c x .e sc [e]
        | none => false)
      | none => false) && okI c sc cl r sts) = true from h)
    cases hv : vAsg st with
    | none => rw [hv] at h; cases h
    | some q =>
      obtain ⟨tg, e⟩ := q
      rw [hv] at h
      have h : (match attNm tg with
        | some (y, g) => decide (f = g) && nmB c sc 0 y && noComp e && decide (cl < c.T.cn.length) && decide ((cl, f) ∈ c.T.na) && ok c x .e sc [e]
        | none => false) = true := h
      cases ha : attNm tg with
      | none => rw [ha] at h; cases h
      | some q =>
        obtain ⟨y, g⟩ := q
        rw [ha] at h
        obtain ⟨h, h6⟩ := and2 h
        obtain ⟨h, h5⟩ := and2 h
        obtain ⟨h, h4⟩ := and2 h
        obtain ⟨h, h3⟩ := and2 h
        obtain ⟨h1, h2⟩ := and2 h
        obtain ⟨p, rfl⟩ := vAsg_ok hv
        obtain ⟨p1, q1, rfl⟩ := attNm_ok ha
        have eg : f = g := of_decide_eq_true h1
        subst eg
        obtain ⟨n1, n2, n3, n4⟩ := nmB_ok h2
        have hz := List.getElem?_eq_getElem (of_decide_eq_true h4)
        refine PSs_imp (pss_cons (ps_fld (pe_var (i := 0) (by rw [C.n]; exact n1) (by rw [C.scp]; exact n2) n3 n4) (holdsE (mas c G hng x C h6)) (swap_no h3)) (init_ok hng C r hr)) fun D σ H ⟨w, en, R, p⟩ => ⟨w, en, R, (PostG.useD (R := ev G x en) p).imp fun w1 H1 e1 sv le R1 q v T => ?_⟩
        obtain ⟨w2, d, le2, R2, rd, q⟩ := q v T
        split at q
        · rename_i c' ns vs eg
          split at q
          · rename_i hc
            obtain ⟨rfl, hf, hl⟩ := hc
            obtain ⟨u, eu, a, dx, fs, rfl, ea, rfl, rr⟩ := R2.slot 0 _ eg
            refine ⟨.ref a, eu, a, _, dx, fs, rfl, ea, (C.ct.cls _ _ hz).1.cls, C.ct.noat _ f (of_decide_eq_true h5), by rw [List.length_map] at hl; exact hl, ?_⟩
            rw [putF_new hf]
            refine ⟨w2, _, R2.setOwn (sv' := .oo c' (fs.map (·.1) ++ [f]) (vs ++ [d])) eg rfl eu ⟨a, dx, _, rfl, upd_same, ?_, ?_⟩, q⟩
            · rw [List.map_append]; rfl
            · rw [List.map_append]; exact rr.append (.cons rd .nil)
          · exact q.elim
        · exact q.elim
theorem fn_init (Z : Gk Pr wo K mg base L k G c.gn c.bn c.T) (hng : c.ng = G.length) {x qual : Str} {params : Arguments} {body : List Stmt} {scope : Scope} {f : Addr} {fd : FuncData} {ps : List Str} {cl np : Nat} (hp : ps.length = np + 1) (F : FunD K x qual params body scope [] [] f fd) (S : FnScope c.N ps scope)
    {b : List (Str × Ex)} (hc : okI c scope cl b body = true) : FnG Pr wo K mg base (k + 1) f fd ps (spI L cl (fnI G cl np c.N.length b)) := by
  have hpl : ps.length ≤ c.N.length := by have := congrArg List.length S.pre; rw [List.length_take] at this; omega
  refine fn_g F S (fun vs H Q E h => ?_) fun cdv A outer s H vs Q E hg hr h => ?_
  · obtain ⟨w, ds, St, y, dx, us, rfl, _, _, _, m, r, q⟩ := h
    rw [List.length_cons, r.length, hp]
    by_cases e : ds.length = np
    · rw [e]
    · have e0 : fnI G cl np c.N.length b ds St = .bad := by unfold fnI; rw [if_neg e]
      rw [e0] at q
      exact q.elim
  obtain ⟨w, ds, St, y, dx, us, rfl, hy, nI, nF, m, r, q⟩ := h
  have C := Z.cxt S.nd (P := ⟨L, hide H y, w.F, w.I⟩) rfl (qual := qual) (scope := scope) (f := f) (cdv := cdv) (A := A) (outer := outer) (s := s) (H := H) (E := E) hg hr
  refine ⟨_, init_ok hng C b hc, ?_⟩
  by_cases hn : ds.length = np
  case neg =>
    have e : fnI G cl np c.N.length b ds St = .bad := by unfold fnI; rw [if_neg hn]
    rw [e] at q
    exact q.elim
  have e0 : fnI G cl np c.N.length b ds St = finI cl (evI G cl b ⟨some (.oo cl [] []) :: (ds.map (fun d => some (SV.v d)) ++ List.replicate (c.N.length - (np + 1)) none), St⟩) := by unfold fnI; rw [if_pos hn]
  rw [e0] at q
  have hl := r.length
  have slot : ∀ i sv, Env.get ⟨some (.oo cl [] []) :: (ds.map (fun d => some (SV.v d)) ++ List.replicate (c.N.length - (np + 1)) none), St⟩ i = some sv → (i = 0 ∧ sv = .oo cl [] []) ∨ ∃ j d, i = j + 1 ∧ ds[j]? = some d ∧ sv = .v d := fun i sv e => by
    cases i with
    | zero => left; refine ⟨rfl, ?_⟩; cases e; rfl
    | succ j =>
      right
      have e : Env.get ⟨ds.map (fun d => some (SV.v d)) ++ List.replicate (c.N.length - (np + 1)) none, St⟩ j = some sv := by
        unfold Env.get at e ⊢
        simpa using e
      obtain ⟨d, h1, h2⟩ := slots_get e
      exact ⟨j, d, rfl, h1, h2⟩
  have s0 : (start c.N (.ref y :: us))[0]? = some (some (.ref y)) := start_get (by simp)
  have R0 : Rep ⟨L, hide H y, w.F, w.I⟩ w H (start c.N (.ref y :: us)) ⟨some (.oo cl [] []) :: (ds.map (fun d => some (SV.v d)) ++ List.replicate (c.N.length - (np + 1)) none), St⟩ := by
    have o0 : ∀ i a, Owns ⟨some (.oo cl [] []) :: (ds.map (fun d => some (SV.v d)) ++ List.replicate (c.N.length - (np + 1)) none), St⟩ (start c.N (.ref y :: us)) i a → i = 0 ∧ a = y := fun i a ⟨sv, e, ho, g⟩ => by
      rcases slot i sv e with ⟨rfl, rfl⟩ | ⟨j, d, rfl, _, rfl⟩
      · rw [s0] at g; cases g; exact ⟨rfl, rfl⟩
      · cases ho
    refine ⟨m, ?_, fun i sv e => ?_, fun i a z => ?_, fun i j a z1 z2 => by rw [(o0 i a z1).1, (o0 j a z2).1]⟩
    · unfold L2.start
      show (_ :: (ds.map _ ++ List.replicate _ _)).length = _
      simp only [List.length_cons, List.length_append, List.length_map, List.length_replicate]
      omega
    · rcases slot i sv e with ⟨rfl, rfl⟩ | ⟨j, d, rfl, ed, rfl⟩
      · exact ⟨_, s0, y, dx, [], rfl, hy, rfl, .nil⟩
      · obtain ⟨v, ev, rv⟩ := DRs.get r ed
        exact ⟨v, start_get (by simpa using ev), rv⟩
    · obtain ⟨_, rfl⟩ := o0 i a z
      exact ⟨nF, hide_same, nI⟩
  refine ⟨w, _, R0, ?_⟩
  cases e : evI G cl b ⟨some (.oo cl [] []) :: (ds.map (fun d => some (SV.v d)) ++ List.replicate (c.N.length - (np + 1)) none), St⟩ with
  | ok u en =>
    rw [e] at q
    intro w' H' le R'
    have e1 : finI cl (.ok u en) = finO cl en.s (en.get 0) := rfl
    rw [e1] at q
    cases eg : en.get 0 with
    | none => rw [eg] at q; exact q.elim
    | some sv =>
      rw [eg] at q
      cases sv with
      | oo c' ns xs =>
        by_cases hcc : c' = cl
        · subst hcc
          have e2 : finO c' en.s (some (.oo c' ns xs)) = .ok (.obj c' ns xs) en.s := by show (if c' = c' then _ else _) = _; rw [if_pos rfl]
          rw [e2] at q
          obtain ⟨ns', xs', eo, q⟩ := q
          cases eo
          obtain ⟨v, ev, a, dx', fs, rfl, ea, en', rr⟩ := R'.slot 0 _ eg
          rw [s0] at ev
          cases ev
          obtain ⟨a1, a2, a3⟩ := R'.own 0 y ⟨_, eg, rfl, s0⟩
          exact q w' H' dx' fs le R'.mem ea a3 a1 en' rr
        · have e2 : finO cl en.s (some (.oo c' ns xs)) = .bad := by show (if c' = cl then _ else _) = _; rw [if_neg hcc]
          rw [e2] at q
          exact q.elim
      | _ => exact (show False from q).elim
  | err y' S' => rw [e] at q; exact q
  | bad => rw [e] at q; exact q
end
end Ev

set_option Elab.async false
set_option linter.all false
set_option maxRecDepth 100000
set_option maxHeartbeats 4000000
namespace Ev
open PySem PySem.Spec PyProof.Rows L2

/-! ### the law's call -/
section
variable {Pr : Program} {w : World} {K : PySem.W.Frag} {mg mb : Str → Option Value} {k : Nat} {fa a : Addr} {fd : FuncData} {x : Str} {sp : Sp} {s1 : Shared} {vs : List Value} {ns : List Int}
/-- the end, from a heap where the script alone may be tracked -/
theorem law_core {H : Hp} (KX : K.In s1.heap) (hns : s1.heap.Ns mainGlobals mg) (hb : s1.heap.Ns builtinsNs mb) (hbb : ∀ x : Str, x ≠ "__name__" → mb x = bootBuiltins x) (hlim : s1.heap.NoLimit) (hg : s1.gens = #[]) (ha : s1.heap.get? a = some { cls := .type "list", data := .seq vs.toArray })
    (hr : Room k callerA) (F : ∀ base : Heap, K.In base → base.Ns mainGlobals mg → FnG Pr w K mg base k fa fd [x] sp) (hbd : ∀ (s : Shared) (u : Value), BindsTo s fd ⟨[u], []⟩ [(x, u)])
    (hq : sp [.ref a] H (fun v _ => v = .bl true) fun _ _ _ => False) (hO : Only H) (hok : HOk Pr w H s1.heap) (hA : ∀ b, H b ≠ none → b = a) (hK : H a ≠ none → K.lookup a = none) :
    codeAny (model Pr w) callerA (.call (.ref fa) ⟨[.ref a], []⟩) (fun r s' => r = .ok (.ret (.bool true)) ∧ OldK s1.heap s'.heap ∧ s'.os = s1.os ∧ AllBare s'.gens) s1 := by
  have free : ∀ {b : Addr} {o : Obj}, s1.heap.get? b = some o → (∀ l n, o.data ≠ .seq l n) → H b = none := fun {b o} e h => by
    cases q : H b with
    | none => rfl
    | some u =>
      have eb := hA b (by rw [q]; simp)
      rw [eb, ha] at e
      cases e
      exact absurd rfl (h _ _)
  have nsK : ∀ {b : Addr} {m : Str → Option Value}, s1.heap.Ns b m → (hidT s1.heap H).Ns b m := fun {b m} ⟨o, es, ep, e, d, r⟩ => ⟨o, es, ep, hidT_get e (free e fun l n z => by rw [d] at z; cases z), d, r⟩
  have KB : K.In (hidT s1.heap H) := fun b o e => hidT_get (KX b o e) (by
    cases q : H b with
    | none => rfl
    | some u =>
      have eb := hA b (by rw [q]; simp)
      have := hK (by rw [← eb, q]; simp)
      rw [← eb, e] at this
      cases this)
  have e0 : Env0 Pr w K mg (hidT s1.heap H) callerA [] s1 H := by
    obtain ⟨mc, h1, h2⟩ := hlim
    exact ⟨rfl, ⟨KB, nsK hns, ⟨mb, nsK hb, hbb⟩, ⟨mc, nsK h1, h2⟩⟩, fun b o e => of_hidT e, Nat.le_of_eq (hidT_size _ _), trivial, (fun b hb => by cases hb), hok, .of_eq hg⟩
  refine codeAny_mono ((F _ KB (nsK hns)).runs (outer := []) (us := [.ref a]) (vs := [.ref a]) rfl hr e0 (hbd s1 (.ref a)) (.cons rfl .nil) hq) fun r s' h => ?_
  cases r with
  | error e =>
    obtain ⟨_, _, _, _, _, _, _, _, _, _, _, _, f⟩ := h
    exact f.elim
  | ok fl =>
    cases fl with
    | ret u =>
      obtain ⟨v, H', os, bare, un, hok', rv, q⟩ := h
      have q : v = .bl true := q
      subst q
      cases rv
      refine ⟨rfl, OldK.of_keep fun b o e => ?_, os, bare⟩
      rcases hO b with z | ⟨ob, xs, z⟩
      · exact un.keep b o e z (fun y => by cases y) (by simp)
      · have z2 := un.frzs b ob _ z
        have e1 := (hok b _ z).1
        have e2 := (hok' b _ z2).1
        rw [e] at e1
        cases e1
        exact e2
    | _ => exact h.elim
/-- the script, tracked or the text's own -/
theorem law_g (KX : K.In s1.heap) (hns : s1.heap.Ns mainGlobals mg) (hb : s1.heap.Ns builtinsNs mb) (hbb : ∀ x : Str, x ≠ "__name__" → mb x = bootBuiltins x) (hlim : s1.heap.NoLimit) (hg : s1.gens = #[]) (ha : s1.heap.get? a = some { cls := .type "list", data := .seq vs.toArray })
    (hi : IntsAre vs ns) (hl : ns.length ≤ sizeLine) (hr : Room k callerA) (F : ∀ base : Heap, K.In base → base.Ns mainGlobals mg → FnG Pr w K mg base k fa fd [x] sp) (hbd : ∀ (s : Shared) (u : Value), BindsTo s fd ⟨[u], []⟩ [(x, u)])
    (hq : ∀ H : Hp, Only H → SqL K H a (ns.map V.int) → sp [.ref a] H (fun v _ => v = .bl true) fun _ _ _ => False) :
    codeAny (model Pr w) callerA (.call (.ref fa) ⟨[.ref a], []⟩) (fun r s' => r = .ok (.ret (.bool true)) ∧ OldK s1.heap s'.heap ∧ s'.os = s1.os ∧ AllBare s'.gens) s1 := by
  have rv : Vals (ns.map V.int) vs := vals_of_ints hi
  cases hk : K.lookup a with
  | some o =>
    have e := KX a o hk
    rw [ha] at e
    cases e
    have hO : Only fun _ => none := fun _ => .inl rfl
    refine law_core (H := fun _ => none) KX hns hb hbb hlim hg ha hr F hbd (hq _ hO (.inr ⟨_, vs.toArray, _, hk, rfl, rfl, rfl, ?_, by simpa using rv⟩)) hO (fun b u z => by cases z) (fun b z => absurd rfl z) fun z => absurd rfl z
    have := rv.length
    rw [List.length_map] at this
    rw [List.size_toArray, ← this]
    exact hl
  | none =>
    let O : Obj := { cls := .type "list", data := .seq vs.toArray }
    let H : Hp := fun b => if b = a then some (.frz O (.lst (ns.map V.int))) else none
    have h1 : H a = some (.frz O (.lst (ns.map V.int))) := if_pos rfl
    have h2 : ∀ b, b ≠ a → H b = none := fun b h => if_neg h
    have hO : Only H := fun b => by
      by_cases e : b = a
      · subst e; exact .inr ⟨O, _, h1⟩
      · exact .inl (h2 b e)
    have hA : ∀ b, H b ≠ none → b = a := fun b z => by
      by_cases e : b = a
      · exact e
      · exact absurd (h2 b e) z
    refine law_core (H := H) KX hns hb hbb hlim hg ha hr F hbd (hq H hO (.inl (.inr ⟨O, h1⟩))) hO (fun b u z => ?_) hA fun _ => hk
    have e := hA b (by rw [z]; simp)
    subst e
    rw [h1] at z
    cases z
    exact ⟨ha, by rw [List.length_map]; exact hl, vs, _, rv, ha⟩
end
/-- a law's end: the law's def by its function -/
theorem walk_g {l : PySem.W.OpenLaw} {n k : Nat} {q : Program} {loose : List Str} {XP : (Str → Option Value) → Heap → Prop} {YP : World → Heap → Prop} {d : DefRec} {x : Str} {f : Fn} {L : PySem.W.Frag → Lk} (hL : ∀ K, (L K).K = K)
    (hn : l.most = some n) (hn2 : n ≤ sizeLine) (hdf : d.params.defaults = []) (hr : Room k callerA)
    (F : ∀ (w : World) (mg : Str → Option Value) (fa : Addr) (h : Heap), YP w h → h.Ns mainGlobals mg → mg d.name = some (.ref fa) →
      ∃ (K : PySem.W.Frag) (fd : FuncData), K.In h ∧ (∀ (s : Shared) (u : Value), BindsTo s fd ⟨[u], []⟩ [(x, u)]) ∧ ∀ base : Heap, K.In base → base.Ns mainGlobals mg → FnG l.prog w K mg base k fa fd [x] (spOf (L K) f))
    (law : ∀ ns : List Int, ns.length ≤ n → (∀ z ∈ ns, Builtin.Int.intBits z ≤ 1048576) → ∃ S, f [.lst (ns.map .int)] [] = .ok (.bl true) S) : PySem.W.WalkO q loose XP YP l.row.toRowW d [] (fun f vs => PySem.call f vs) := by
  refine Att.attach_callB hn hdf fun w s₀ s1 mg mb fa o pm cd doc a vs ns G Y ho hd hcd hmg hobj hints hlen hbits hg => ?_
  obtain ⟨K, fd, KX, hb, hF⟩ := F w mg fa _ Y G.T.g hmg
  refine law_g KX G.T.g G.T.b G.T.builtins G.T.nolimit hg hobj hints (Nat.le_trans hlen hn2) hr hF hb fun H hO hS => ?_
  obtain ⟨S, e⟩ := law ns hlen hbits
  refine ⟨⟨H, []⟩, [.lst (ns.map .int)], [], ⟨Sb.refl _, Sb.refl _, fun _ _ h _ => h, fun _ h => h, (fun _ h => by cases h), (fun _ h => by cases h), fun _ _ h => .inl h, List.nodup_nil, rfl, (fun _ _ _ h => by cases h)⟩, .cons (.lst (by rw [hL]; exact hS) ?_) .nil, ?_⟩
  · have : ∀ l : List Int, DRsw (L K) ⟨H, []⟩ (l.map V.int) (l.map D.int) := fun l => by
      induction l with
      | nil => exact .nil
      | cons i l ih => exact .cons (.int i) ih
    exact this ns
  · rw [e]
    exact fun v w' H' _ _ r => by cases r; rfl
end Ev

set_option Elab.async false
set_option linter.all false
set_option maxRecDepth 100000
set_option maxHeartbeats 4000000
namespace Ev
open PySem PySem.Spec PyProof.Rows L2

theorem okId_ok {K : PySem.W.Frag} {C : Addr} (h : okId K C = true) : IdC K C := by
  unfold okId at h
  split at h
  · rename_i c dd cd sl lk
    simp only [Bool.and_eq_true, decide_eq_true_eq, Bool.not_eq_true'] at h
    obtain ⟨⟨⟨⟨⟨⟨h1, h2⟩, h3⟩, h4⟩, h5⟩, h6⟩, h7⟩ := h
    obtain ⟨nm, bases, mro, ns, q, hd, sn, sub, ab, col, hdel⟩ := cd
    obtain ⟨sl⟩ := sl
    simp only at h2 h3 h4 h5 h6 h7
    subst h1 h2 h3
    split at h4
    · rename_i k0 k1 k2 k3 newId k5
      exact ⟨nm, q, ns, bases, hd, sn, sub, ab, col, dd, k0, k1, k2, k3, k5, newId, lk, h5, He.eqO_ok h6, He.eqO_ok h7⟩
    · cases h4
  · cases h
/-- an __init__: its class, its def -/
structure MkAt (Pr : Program) (wo : World) (K : PySem.W.Frag) (mg : Str → Option Value) (base : Heap) (T : ClsT) (L : Lk) (k c : Nat) (f : Fn) : Prop where
  there : ∃ fd ps, Binds K fd ps [] ∧ (∀ ks pm, (c, ks, pm) ∈ T.kws → KBn K fd ps 1 ks (fun us ws => us ++ pickL pm ws) (fun vs zs => vs ++ pickL pm zs)) ∧ ∃ j, j + 1 ≤ k ∧ FnG Pr wo K mg base j (He.ma K (caOf T.cn K c) "__init__") fd ps (spI L c f)
section
variable {Pr : Program} {wo : World} {K : PySem.W.Frag} {mg : Str → Option Value} {base : Heap} {k : Nat} {G : List Fn} {T : ClsT} {ga : Nat → Addr}
def lk (K : PySem.W.Frag) (cn : List Str) (ga : Nat → Addr) : Lk := ⟨K, caOf cn K, ga⟩
theorem ct_of (KX : K.In base) (hns : base.Ns mainGlobals mg) (h : exC T K = true) (hmk : ∀ c g f, (c, g) ∈ T.mkf → G[g]? = some f → MkAt Pr wo K mg base T (lk K T.cn ga) k c f) (X : Cx) (h1 : X.prog = Pr) (h2 : X.w = wo) (h3 : X.K = K) (h4 : X.mg = mg) (h5 : X.base = base) : CT X (lk K T.cn ga) k G T := by
  subst h1 h2 h3 h4 h5
  unfold exC at h
  simp only [Bool.and_eq_true, List.all_eq_true] at h
  obtain ⟨⟨⟨⟨⟨⟨hd, hc⟩, hn⟩, hi⟩, hq⟩, h0⟩, hf⟩ := h
  unfold okDesc at hd
  simp only [Bool.and_eq_true] at hd
  obtain ⟨⟨d1, d2⟩, d3⟩ := hd
  refine ⟨fun c x hx => ?_, fun c f hm => He.eqO_ok (hn (c, f) hm), fun c d hm => of_decide_eq_true (hi (c, d) hm), fun c hm => okId_ok (hq c hm), fun c hm => ?_, fun c g f hm hg => ?_, ?_⟩
  · have hg : T.cn.getD c "" = x := by rw [List.getD_eq_getElem?_getD, hx]; rfl
    have z := hc x (List.mem_of_getElem? hx)
    unfold okClsX at z
    simp only [Bool.and_eq_true, List.all_eq_true] at z
    obtain ⟨⟨⟨⟨⟨z1, z2⟩, z3⟩, z4⟩, z5⟩, z6⟩ := z
    have ec : (lk X.K T.cn ga).ca c = He.ga X.K x := by show He.ga X.K (T.cn.getD c "") = _; rw [hg]
    rw [ec]
    refine ⟨⟨He.cls_ok z1, He.eqO_ok z2, He.eqO_ok d1, of_decide_eq_true d2, of_decide_eq_true z3, by simpa using z4, fun t ht hne => ?_⟩, He.glo_ok KX hns z6⟩
    refine of_decide_eq_true (z5 t ?_)
    cases t <;> first | (unfold tyAll; simp; done) | (cases ht; done) | exact absurd rfl hne
  · have z := h0 c hm
    unfold okMk0 at z
    simp only [Bool.and_eq_true] at z
    exact ⟨z.1.1, He.eqO_ok z.1.2, z.2⟩
  · obtain ⟨fd, ps, b1, b2, j, hj, F⟩ := (hmk c g f hm hg).there
    exact ⟨_, fd, ps, He.mkr_ok (hf (c, g) hm), b1, b2, j, hj, F⟩
  · split at d3
    · rename_i c dd dt sl lk
      have : c = "dict" := of_decide_eq_true d3
      subst this
      exact ⟨_, lk, rfl⟩
    · cases d3
/-- keywords alone behind self -/
theorem kb_of {x qual : Str} {params : Arguments} {body : List Stmt} {scope : Scope} {f : Addr} {fd : FuncData} {ps ks : List Str} {pm : List Nat} (F : FunD K x qual params body scope [] [] f fd)
    (h : ∀ (kV doc pm' : Value) (an : Option Addr) (cdv ct : Value) (us ws : List Value), us.length = 1 → ws.length = ks.length → bindArgs (PySem.W.fnOf x qual params body scope .none kV doc pm' an cdv ct) ⟨us, ks.zip ws⟩ = pure (ps.zip (us ++ pickL pm ws))) :
    KBn K fd ps 1 ks (fun us ws => us ++ pickL pm ws) (fun vs zs => vs ++ pickL pm zs) := by
  obtain ⟨oc, od, dV, kV, doc, pm', an, cdv, ct, osl, rfl, lk, hcd, hD, hK⟩ := F.ex
  rcases hD with ⟨_, rfl⟩ | ⟨e, _⟩
  · exact ⟨fun s us ws X l1 l2 => .of_eq (h kV doc pm' an cdv ct us ws l1 l2), fun r1 r2 => r1.append (pickL_vals r2 pm)⟩
  · exact absurd rfl e
end
end Ev

set_option Elab.async false
set_option linter.all false
set_option maxRecDepth 100000
set_option maxHeartbeats 4000000
namespace Ev
open PySem PySem.Spec PyProof.Rows L2

/-- a def of the name x keeps what f says, in any body -/
structure FE (Pr : Program) (wo : World) (K : PySem.W.Frag) (mg : Str → Option Value) (base : Heap) (L : Lk) (k g : Nat) (x : Str) (f : Fn) : Prop where
  there : ∃ a fd ps, mg x = some (.ref a) ∧ L.ga g = a ∧ PySem.W.keepIn K (.ref a) = true ∧ Binds K fd ps [] ∧ FnG Pr wo K mg base k a fd ps (spOf L f)
section
variable {Pr : Program} {wo : World} {K : PySem.W.Frag} {mg : Str → Option Value} {base : Heap} {k : Nat} {G : List Fn} {gn bn : List Str} {T : ClsT} {ga : Nat → Addr}
theorem FE.more {L : Lk} {j k g : Nat} {x : Str} {f : Fn} (h : FE Pr wo K mg base L j g x f) (le : j ≤ k) : FE Pr wo K mg base L k g x f :=
  let ⟨a, fd, ps, h1, h2, h3, h4, F⟩ := h.there; ⟨a, fd, ps, h1, h2, h3, h4, F.more le⟩
theorem MkAt.more {L : Lk} {j k c : Nat} {f : Fn} (h : MkAt Pr wo K mg base T L j c f) (le : j ≤ k) : MkAt Pr wo K mg base T L k c f :=
  let ⟨fd, ps, h1, h2, i, h3, F⟩ := h.there; ⟨fd, ps, h1, h2, i, Nat.le_trans h3 le, F⟩
/-- a stage of the text -/
structure Stg (Pr : Program) (wo : World) (K : PySem.W.Frag) (mg : Str → Option Value) (base : Heap) (T : ClsT) (ga : Nat → Addr) (k : Nat) (G : List Fn) (gn : List Str) : Prop where
  fns : ∀ (g : Nat) (f : Fn) (x : Str), G[g]? = some f → gn[g]? = some x → x ≠ "" → FE Pr wo K mg base (lk K T.cn ga) k g x f
  mks : ∀ (c g : Nat) (f : Fn), (c, g) ∈ T.mkf → G[g]? = some f → MkAt Pr wo K mg base T (lk K T.cn ga) k c f
theorem Stg.gk (s : Stg Pr wo K mg base T ga k G gn) (KX : K.In base) (hns : base.Ns mainGlobals mg) (hx : exC T K = true) (hb : ∀ x ∈ bn, mg x = none) : Gk Pr wo K mg base (lk K T.cn ga) k G gn bn T := by
  refine ⟨rfl, hb, fun X h1 h2 h3 h4 h5 g f x a b d => ?_, fun X h1 h2 h3 h4 h5 => ct_of KX hns hx s.mks X h1 h2 h3 h4 h5⟩
  subst h1 h2 h3 h4 h5
  exact ⟨(s.fns g f x a b d).there⟩
theorem Stg.nil : Stg Pr wo K mg base T ga 0 [] [] := ⟨(fun g f x h => by cases h), (fun c g f _ h => by cases h)⟩
theorem app_at {α : Type} {xs ys : List α} {g : Nat} {y : α} (h : (xs ++ ys)[g]? = some y) : xs[g]? = some y ∨ ∃ i, g = xs.length + i ∧ ys[i]? = some y := by
  by_cases hg : g < xs.length
  · exact .inl (by rw [List.getElem?_append_left hg] at h; exact h)
  · exact .inr ⟨g - xs.length, by omega, by rw [List.getElem?_append_right (by omega)] at h; exact h⟩
/-- one stage more -/
theorem Stg.step (s : Stg Pr wo K mg base T ga k G gn) (hl : gn.length = G.length) {Gs : List Fn} {gs : List Str} (hf : ∀ (i : Nat) (f : Fn) (x : Str), Gs[i]? = some f → gs[i]? = some x → x ≠ "" → FE Pr wo K mg base (lk K T.cn ga) (k + 1) (G.length + i) x f)
    (hm : ∀ (c i : Nat) (f : Fn), (c, G.length + i) ∈ T.mkf → Gs[i]? = some f → MkAt Pr wo K mg base T (lk K T.cn ga) (k + 1) c f) : Stg Pr wo K mg base T ga (k + 1) (G ++ Gs) (gn ++ gs) := by
  refine ⟨fun g f x h1 h2 h3 => ?_, fun c g f h1 h2 => ?_⟩
  · rcases app_at h1 with a | ⟨i, ei, a⟩
    · have hg := (List.getElem?_eq_some_iff.mp a).1
      rw [List.getElem?_append_left (by omega)] at h2
      exact (s.fns g f x a h2 h3).more (Nat.le_succ k)
    · subst ei
      rw [← hl, List.getElem?_append_right (by omega), Nat.add_sub_cancel_left] at h2
      exact hf i f x a h2 h3
  · rcases app_at h2 with a | ⟨i, ei, a⟩
    · exact (s.mks c g f h1 a).more (Nat.le_succ k)
    · subst ei
      exact hm c i f h1 a
/-- a def, by its code -/
theorem fe_of {c : Chk} {L : Lk} (Z : Gk Pr wo K mg base L k G c.gn c.bn c.T) (hng : c.ng = G.length) {x qual : Str} {params : Arguments} {body : List Stmt} {scope : Scope} {a : Addr} {fd : FuncData} {ps : List Str} {g : Nat} (F : FunD K x qual params body scope [] [] a fd) (S : FnScope c.N ps scope) {b : Sm} (hc : okS c scope b body = true)
    (hm : mg x = some (.ref a)) (hg : L.ga g = a) (hb : Binds K fd ps []) : FE Pr wo K mg base L (k + 1) g x (fnS G ps.length c.N.length b) := ⟨a, fd, ps, hm, hg, F.kp, hb, fn_ok Z hng F S hc⟩
theorem mk_of {c : Chk} (Z : Gk Pr wo K mg base (lk K c.T.cn ga) k G c.gn c.bn c.T) (hng : c.ng = G.length) {x qual : Str} {params : Arguments} {body : List Stmt} {scope : Scope} {fd : FuncData} {ps : List Str} {cl np : Nat} (hp : ps.length = np + 1) (F : FunD K x qual params body scope [] [] (He.ma K (caOf c.T.cn K cl) "__init__") fd)
    (S : FnScope c.N ps scope) {b : List (Str × Ex)} (hc : okI c scope cl b body = true) (hb : Binds K fd ps []) (hk : ∀ ks pm, (cl, ks, pm) ∈ c.T.kws → KBn K fd ps 1 ks (fun us ws => us ++ pickL pm ws) (fun vs zs => vs ++ pickL pm zs)) :
    MkAt Pr wo K mg base c.T (lk K c.T.cn ga) (k + 2) cl (fnI G cl np c.N.length b) := ⟨fd, ps, hb, hk, k + 1, Nat.le_refl _, fn_init Z hng hp F S hc⟩
theorem kws_no {T : ClsT} {c : Nat} (h : (T.kws.all fun q => decide (q.1 ≠ c)) = true) {ks : List Str} {pm : List Nat} (hm : (c, ks, pm) ∈ T.kws) : False := of_decide_eq_true (List.all_eq_true.mp h _ hm) rfl
theorem kws_of {T : ClsT} {c : Nat} {ks0 : List Str} {pm0 : List Nat} (h : (T.kws.all fun q => decide (q.1 = c → q.2 = (ks0, pm0))) = true) {ks : List Str} {pm : List Nat} (hm : (c, ks, pm) ∈ T.kws) : ks = ks0 ∧ pm = pm0 := by
  have := of_decide_eq_true (List.all_eq_true.mp h _ hm) rfl
  injection this with h1 h2
  exact ⟨h1, h2⟩
end
end Ev

set_option Elab.async false
set_option linter.all false
set_option maxRecDepth 100000
set_option maxHeartbeats 4000000
/-! the evaluator's steps as rules -/
namespace Ev
open PySem
section
variable {G : List Fn} {e e1 e2 e3 : Env} {a b c x y : Ex} {d d1 d2 : D} {sv : SV}
theorem optS {σ α : Type} {o : Option α} {v : α} {e : σ} (h : o = some v) : Res.opt o e = .ok v e := by rw [h]; rfl
theorem dOf (h : ev G x e = .ok sv e1) (hd : sv.d = some d) : toD (ev G x e) = .ok d e1 := by rw [h]; show Res.opt sv.d e1 = _; rw [hd]; rfl
theorem dV (h : ev G x e = .ok (.v d) e1) : toD (ev G x e) = .ok d e1 := dOf h rfl
theorem aV {ds : List D} (h : ev G x e = .ok (.v (.tup ds)) e1) : toA (ev G x e) = .ok ds e1 := by rw [h]; rfl
theorem bVar {i : Nat} (h : e.get i = some (.v d)) : ev G (.var i) e = .ok (.v d) e := by
  show rdV e i = _
  unfold rdV
  rw [h]
theorem bNil : ev G .nil e = .ok (.v (.tup [])) e := rfl
theorem bCons {ds : List D} (h1 : toD (ev G a e) = .ok d e1) (h2 : ev G b e1 = .ok (.v (.tup ds)) e2) : ev G (.cons a b) e = .ok (.v (.tup (d :: ds))) e2 := by
  show (toD (ev G a e)).bind _ = _
  rw [h1]; show (toA (ev G b e1)).bind _ = _
  rw [h2]; rfl
theorem bTup {ds : List D} (h : ev G a e = .ok (.v (.tup ds)) e1) (hl : ds.length ≤ lim) : ev G (.tup a) e = .ok (.v (.tup ds)) e1 := by
  show (toA (ev G a e)).bind _ = _
  rw [h]; exact if_pos hl
theorem bDisp {ds : List D} (h : ev G a e = .ok (.v (.tup ds)) e1) (hl : ds.length ≤ lim) : ev G (.disp a) e = .ok (.ol ds) e1 := by
  show (toA (ev G a e)).bind _ = _
  rw [h]; exact if_pos hl
theorem bBin {op : Bop} (h1 : toD (ev G a e) = .ok d1 e1) (h2 : toD (ev G b e1) = .ok d2 e2) (h : binD op d1 d2 = some sv) : ev G (.bin op a b) e = .ok sv e2 := by
  show (toD (ev G a e)).bind _ = _
  rw [h1]; show (toD (ev G b e1)).bind _ = _
  rw [h2]; exact optS h
theorem bCmp {op : Cop} {k : Bool} (h1 : toD (ev G a e) = .ok d1 e1) (h2 : toD (ev G b e1) = .ok d2 e2) (h : cmpD op d1 d2 = some k) : ev G (.cmp op a b) e = .ok (.v (.bl k)) e2 := by
  show (toD (ev G a e)).bind _ = _
  rw [h1]; show (toD (ev G b e1)).bind _ = _
  rw [h2]; exact optS (by rw [h]; rfl)
theorem bNot {k : Bool} (h1 : toD (ev G a e) = .ok (.bl k) e1) : ev G (.not a) e = .ok (.v (.bl (!k))) e1 := by
  show (toD (ev G a e)).bind _ = _
  rw [h1]; rfl
theorem bAndT (h1 : toD (ev G a e) = .ok (.bl true) e1) : ev G (.and a b) e = ev G b e1 := by
  show (toD (ev G a e)).bind _ = _
  rw [h1]; rfl
theorem bAndF (h1 : toD (ev G a e) = .ok (.bl false) e1) : ev G (.and a b) e = .ok (.v (.bl false)) e1 := by
  show (toD (ev G a e)).bind _ = _
  rw [h1]; rfl
theorem bOrT (h1 : toD (ev G a e) = .ok (.bl true) e1) : ev G (.or a b) e = .ok (.v (.bl true)) e1 := by
  show (toD (ev G a e)).bind _ = _
  rw [h1]; rfl
theorem bOrF (h1 : toD (ev G a e) = .ok (.bl false) e1) : ev G (.or a b) e = ev G b e1 := by
  show (toD (ev G a e)).bind _ = _
  rw [h1]; rfl
theorem bIteT (h1 : toD (ev G c e) = .ok (.bl true) e1) : ev G (.ite c a b) e = ev G a e1 := by
  show (toD (ev G c e)).bind _ = _
  rw [h1]; rfl
theorem bIteF (h1 : toD (ev G c e) = .ok (.bl false) e1) : ev G (.ite c a b) e = ev G b e1 := by
  show (toD (ev G c e)).bind _ = _
  rw [h1]; rfl
theorem bIdx (h1 : toD (ev G a e) = .ok d1 e1) (h2 : toD (ev G b e1) = .ok d2 e2) (h : idxD d1 d2 e2.s = some d) : ev G (.idx a b) e = .ok (.v d) e2 := by
  show (toD (ev G a e)).bind _ = _
  rw [h1]; show (toD (ev G b e1)).bind _ = _
  rw [h2]; exact optS (by rw [h]; rfl)
theorem bAttr {f : Str} {cs : List Nat} (h1 : toD (ev G a e) = .ok d1 e1) (h : attrD d1 f cs e1.s = some d) : ev G (.attr a f cs) e = .ok (.v d) e1 := by
  show (toD (ev G a e)).bind _ = _
  rw [h1]; exact optS (by rw [h]; rfl)
theorem bBi {bi : Bi} {ds : List D} (h1 : ev G a e = .ok (.v (.tup ds)) e1) (h : biD bi ds e1.s = some sv) : ev G (.bi bi a) e = .ok sv e1 := by
  show (toA (ev G a e)).bind _ = _
  rw [h1]; exact optS h
theorem bIsi {ts : List Ty} {cs : List Nat} {k : Bool} (h1 : toD (ev G a e) = .ok d1 e1) (h : isinD d1 e1.s ts cs = some k) : ev G (.isi a ts cs) e = .ok (.v (.bl k)) e1 := by
  show (toD (ev G a e)).bind _ = _
  rw [h1]; exact optS (by rw [h]; rfl)
theorem bSame {neg : Bool} {cs : List Nat} {k : Bool} (h1 : toD (ev G a e) = .ok d1 e1) (h2 : toD (ev G b e1) = .ok d2 e2) (h : sameD d1 d2 cs e2.s = some k) : ev G (.same neg a b cs) e = .ok (.v (.bl (if neg then !k else k))) e2 := by
  show (toD (ev G a e)).bind _ = _
  rw [h1]; show (toD (ev G b e1)).bind _ = _
  rw [h2]; exact optS (by rw [h]; rfl)
theorem bCall {g : Nat} {f : Fn} {ds : List D} {S : Store} (h1 : ev G a e = .ok (.v (.tup ds)) e1) (hg : G[g]? = some f) (h : f ds e1.s = .ok d S) : ev G (.call g a) e = .ok (.v d) ⟨e1.r, S⟩ := by
  show (toA (ev G a e)).bind _ = _
  rw [h1]
  show (match G[g]? with | some f => (f ds e1.s).bind fun d s => Res.ok (SV.v d) (⟨e1.r, s⟩ : Env) | none => .bad) = _
  rw [hg]
  show (f ds e1.s).bind _ = _
  rw [h]; rfl
/-! statements -/
variable {s t : Sm} {fl : Fl}
theorem sSeq (h : evS G s e = .ok .nx e1) : evS G (.seq s t) e = evS G t e1 := by
  show (evS G s e).bind _ = _
  rw [h]; rfl
theorem sSeqR (h : evS G s e = .ok (.rt d) e1) : evS G (.seq s t) e = .ok (.rt d) e1 := by
  show (evS G s e).bind _ = _
  rw [h]; rfl
theorem sAsg {g : Tg} (h : toD (ev G x e) = .ok d e1) (ht : asgT g d e1 = some e2) : evS G (.asg g x) e = .ok .nx e2 := by
  show (toD (ev G x e)).bind _ = _
  rw [h]; show (Res.opt (asgT g d e1) e1).bind _ = _
  rw [ht]; rfl
theorem sOwn {i : Nat} (h : ev G x e = .ok sv e1) (hi : i < e1.r.length) : evS G (.own i x) e = .ok .nx (e1.set i (some sv)) := by
  show (ev G x e).bind _ = _
  rw [h]; exact if_pos hi
theorem sPar {i j : Nat} (h1 : toD (ev G a e) = .ok d1 e1) (h2 : toD (ev G b e1) = .ok d2 e2) (h : i < e2.r.length ∧ j < e2.r.length) : evS G (.par i j a b) e = .ok .nx ((e2.set i (some (.v d1))).set j (some (.v d2))) := by
  show (toD (ev G a e)).bind _ = _
  rw [h1]; show (toD (ev G b e1)).bind _ = _
  rw [h2]; exact if_pos h
theorem sSetk {k : Str} {S : Store} (h1 : toD (ev G x e) = .ok d1 e1) (h2 : toD (ev G a e1) = .ok d2 e2) (h : setkD d2 k d1 e2.s = some S) : evS G (.setk a k x) e = .ok .nx ⟨e2.r, S⟩ := by
  show (toD (ev G x e)).bind _ = _
  rw [h1]; show (toD (ev G a e1)).bind _ = _
  rw [h2]; show (Res.opt (setkD d2 k d1 e2.s) e2).bind _ = _
  rw [h]; rfl
theorem sApp {i : Nat} {xs ys : List D} (h0 : e.get i = some (.ol xs)) (h1 : toD (ev G x e) = .ok d e1) (h2 : e1.get i = some (.ol ys)) (h : ys.length < lim) : evS G (.app i x) e = .ok .nx (e1.set i (some (.ol (ys ++ [d])))) := by
  show (match e.get i with
    | some (.ol _) => (toD (ev G x e)).bind fun d e1 => (match e1.get i with
      | some (.ol xs) => if xs.length < lim then Res.ok Fl.nx (e1.set i (some (.ol (xs ++ [d])))) else .bad
      | _ => .bad)
    | _ => .bad) = _
  rw [h0]; show (toD (ev G x e)).bind _ = _
  rw [h1]
  show (match e1.get i with
      | some (.ol xs) => if xs.length < lim then Res.ok Fl.nx (e1.set i (some (.ol (xs ++ [d])))) else .bad
      | _ => .bad) = _
  rw [h2]; exact if_pos h
theorem sRet (h : toD (ev G x e) = .ok d e1) : evS G (.ret x) e = .ok (.rt d) e1 := by
  show (toD (ev G x e)).bind _ = _
  rw [h]; rfl
theorem sIteT (h : toD (ev G c e) = .ok (.bl true) e1) : evS G (.ite c s t) e = evS G s e1 := by
  show (toD (ev G c e)).bind _ = _
  rw [h]; rfl
theorem sIteF (h : toD (ev G c e) = .ok (.bl false) e1) : evS G (.ite c s t) e = evS G t e1 := by
  show (toD (ev G c e)).bind _ = _
  rw [h]; rfl
theorem sFor {g : Tg} {xs : List D} {R : Res Env Fl} (h : itemsOf (ev G x e) = .ok xs e1) (hf : forLoop (fun x e2 => (Res.opt (asgT g x e2) e2).bind fun e3 _ => evS G s e3) xs e1 = R) : evS G (.for_ g x s) e = R := by
  show (itemsOf (ev G x e)).bind _ = _
  rw [h]; exact hf
/-- a loop that keeps something -/
theorem for_keep {f : D → Env → Res Env Fl} (I : Nat → Env → Prop) : ∀ {xs : List D} {e : Env} {k : Nat}, I k e → (∀ (i : Nat) (x : D) (e : Env), xs[i]? = some x → I (k + i) e → ∃ e', f x e = .ok .nx e' ∧ I (k + i + 1) e') → ∃ e', forLoop f xs e = .ok .nx e' ∧ I (k + xs.length) e'
  | [], e, k, h, _ => ⟨e, rfl, h⟩
  | x :: xs, e, k, h, st => by
    obtain ⟨e1, h1, i1⟩ := st 0 x e rfl h
    obtain ⟨e2, h2, i2⟩ := for_keep I (xs := xs) (e := e1) (k := k + 1) i1 fun i x e hx hi => by
      obtain ⟨e', q1, q2⟩ := st (i + 1) x e hx (by rw [show k + (i + 1) = k + 1 + i from by omega]; exact hi)
      exact ⟨e', q1, by rw [show k + 1 + i + 1 = k + (i + 1) + 1 from by omega]; exact q2⟩
    refine ⟨e2, ?_, by rw [List.length_cons, show k + (xs.length + 1) = k + 1 + xs.length from by omega]; exact i2⟩
    show (f x e).bind _ = _
    rw [h1]; exact h2
/-- a comprehension that keeps something: the items one by one -/
theorem comp_keep {f : D → Env → Res Env (Option D)} (I : Nat → Env → List D → Prop) : ∀ {xs : List D} {e : Env} {k : Nat} {acc : List D}, I k e acc → (∀ (i : Nat) (x : D) (e : Env) (acc : List D), xs[i]? = some x → I (k + i) e acc → ∃ o e', f x e = .ok o e' ∧ I (k + i + 1) e' (match o with | some d => acc ++ [d] | none => acc)) →
    ∃ ys e', compLoop f xs e acc = .ok ys e' ∧ I (k + xs.length) e' ys
  | [], e, k, acc, h, _ => ⟨acc, e, rfl, h⟩
  | x :: xs, e, k, acc, h, st => by
    obtain ⟨o, e1, h1, i1⟩ := st 0 x e acc rfl h
    obtain ⟨ys, e2, h2, i2⟩ := comp_keep I (xs := xs) (e := e1) (k := k + 1) i1 fun i x e acc hx hi => by
      obtain ⟨o, e', q1, q2⟩ := st (i + 1) x e acc hx (by rw [show k + (i + 1) = k + 1 + i from by omega]; exact hi)
      exact ⟨o, e', q1, by rw [show k + 1 + i + 1 = k + (i + 1) + 1 from by omega]; exact q2⟩
    refine ⟨ys, e2, ?_, by rw [List.length_cons, show k + (xs.length + 1) = k + 1 + xs.length from by omega]; exact i2⟩
    show (f x e).bind _ = _
    rw [h1]; exact h2
end
end Ev

set_option Elab.async false
set_option linter.all false
set_option maxRecDepth 100000
set_option maxHeartbeats 4000000
namespace Ev
open PySem

/-! ### the law's pen -/
def penB : Sm := (.seq (.asg (.v 1) (.int 0)) (.seq (.for_ (.v 2) (.var 0) (.seq (.asg (.v 1) (.bin .mod (.bi .int (.cons (.bin .add (.bin .mul (.var 1) (.int 151)) (.var 2)) .nil)) (.int 999999461))) .skip)) (.seq (.ret (.toc (.ddisp ["cells", "at", "digits", "count", "fold"] (.cons (.bi .list (.cons (.var 0) .nil)) (.cons (.int 0) (.cons (.int 0) (.cons (.int 0) (.cons (.var 1) .nil)))))))) .skip)))
def drawB : Sm := (.seq (.setk (.var 0) "count" (.bin .add (.idx (.var 0) (.str "count")) (.int 1))) (.seq (.ite (.and (.cmp .eq (.idx (.var 0) (.str "digits")) (.int 0)) (.cmp .lt (.idx (.var 0) (.str "at")) (.bi .len (.cons (.idx (.var 0) (.str "cells")) .nil)))) (.seq (.asg (.v 2) (.idx (.idx (.var 0) (.str "cells")) (.idx (.var 0) (.str "at")))) (.seq (.setk (.var 0) "at" (.bin .add (.idx (.var 0) (.str "at")) (.int 1))) (.seq (.ite (.cmp .ge (.var 2) (.bin .pow (.int 10) (.int 18))) (.seq (.setk (.var 0) "digits" (.bin .sub (.var 2) (.bin .pow (.int 10) (.int 18)))) .skip) (.seq (.setk (.var 0) "fold" (.bin .mod (.bi .int (.cons (.bin .add (.bin .mul (.idx (.var 0) (.str "fold")) (.int 28711)) (.var 2)) .nil)) (.int 2147483149))) .skip)) .skip))) .skip) (.seq (.ite (.cmp .gt (.idx (.var 0) (.str "digits")) (.int 0)) (.seq (.asg (.v 3) (.bin .mod (.bi .int (.cons (.idx (.var 0) (.str "digits")) .nil)) (.var 1))) (.seq (.setk (.var 0) "digits" (.bin .fdiv (.idx (.var 0) (.str "digits")) (.var 1))) (.seq (.ret (.var 3)) .skip))) .skip) (.seq (.asg (.v 4) (.bin .add (.bin .add (.idx (.var 0) (.str "fold")) (.bin .mul (.idx (.var 0) (.str "count")) (.int 5939))) (.int 139))) (.seq (.ret (.bin .mod (.bin .fdiv (.bi .int (.cons (.bin .mod (.bin .pow (.var 4) (.int 55)) (.int 2305843009213693951)) .nil)) (.int 1024)) (.var 1))) .skip)))))
/-- the pen's cell -/
def penC (cs : List Int) (at_ dg ct fo : Int) : Cell := .dct [.str "cells", .str "at", .str "digits", .str "count", .str "fold"] [.lst (cs.map .int), .int at_, .int dg, .int ct, .int fo]
structure PenOk (cs : List Int) (at_ dg ct fo : Int) : Prop where
  a0 : 0 ≤ at_
  d0 : 0 ≤ dg
  c0 : 0 ≤ ct
  f0 : 0 ≤ fo
  f1 : fo < 2147483149
/-- a pen after n draws at the most -/
def PenAt (S : Store) (n : Nat) : Prop := ∃ cs at_ dg ct fo, S[0]? = some (penC cs at_ dg ct fo) ∧ PenOk cs at_ dg ct fo ∧ ct ≤ n

@[simp] theorem toD_v (d : D) (e : Env) : toD (.ok (.v d) e) = .ok d e := rfl
@[simp] theorem toA_t (d : List D) (e : Env) : toA (.ok (.v (.tup d)) e) = .ok d e := rfl
theorem fmod_lt (a : Int) {b : Int} (h : 0 < b) : 0 ≤ a.fmod b ∧ a.fmod b < b := by
  rw [Int.fmod_eq_emod_of_nonneg a (Int.le_of_lt h)]
  exact ⟨Int.emod_nonneg a (by omega), Int.emod_lt_of_pos a h⟩
section
variable {G : List Fn}
theorem ev_var {r : List (Option SV)} {S : Store} {i : Nat} {d : D} (h : (r[i]?).join = some (.v d)) : ev G (.var i) ⟨r, S⟩ = .ok (.v d) ⟨r, S⟩ := by
  show rdV ⟨r, S⟩ i = _
  unfold rdV Env.get
  simp only [h]
/-- a read of the pen -/
theorem ev_pen {r : List (Option SV)} {S : Store} {cs : List Int} {at_ dg ct fo : Int} (h0 : (r[0]?).join = some (.v (.ref 0))) (hS : S[0]? = some (penC cs at_ dg ct fo)) {k : Str} {d : D} (hk : lookK k [.str "cells", .str "at", .str "digits", .str "count", .str "fold"] [.lst (cs.map .int), .int at_, .int dg, .int ct, .int fo] = some d) :
    ev G (.idx (.var 0) (.str k)) ⟨r, S⟩ = .ok (.v d) ⟨r, S⟩ := by
  show (toD (ev G (.var 0) ⟨r, S⟩)).bind _ = _
  rw [ev_var h0]
  show Res.opt ((idxD (.ref 0) (.str k) S).map SV.v) (⟨r, S⟩ : Env) = _
  have : idxD (.ref 0) (.str k) S = some d := by
    unfold idxD
    simp only [hS, penC]
    exact hk
  rw [this]; rfl
theorem eqD_int (i j : Int) : eqD (.int i) (.int j) = some (decide (i = j)) := by
  have h : ∀ i : Int, SeqAt.shaped (.int i) = true := fun _ => rfl
  show (if SeqAt.shaped (.int i) = true ∧ SeqAt.shaped (.int j) = true then some (PyData.eqv (.int i) (.int j)) else none) = _
  rw [if_pos ⟨h i, h j⟩]
  show some (i == j) = _
  congr 1
end
def drawF : Fn := fnS [] 2 5 drawB
theorem mul_r (i j : Int) (h : small64 j = true) : binI .mul i j = some (i * j) := by
  unfold binI
  rw [if_pos (by rw [h, Bool.or_true])]
theorem mod_i (i : Int) {j : Int} (h : j ≠ 0) : binD .mod (.int i) (.int j) = some (.v (.int (i.fmod j))) := by
  have e : binI .mod i j = some (i.fmod j) := if_pos h
  show (binI .mod i j).map _ = _
  rw [e]; rfl
theorem fdiv_i (i : Int) {j : Int} (h : j ≠ 0 ∧ j.natAbs < 1073741824) : binD .fdiv (.int i) (.int j) = some (.v (.int (i.fdiv j))) := by
  have e : binI .fdiv i j = some (i.fdiv j) := if_pos h
  show (binI .fdiv i j).map _ = _
  rw [e]; rfl
theorem pow_i {i j : Int} (h : 0 ≤ j ∧ j ≤ 1000000 ∧ i.natAbs < 18446744073709551616) : binD .pow (.int i) (.int j) = some (.v (.int (i ^ j.toNat))) := by
  have e : binI .pow i j = some (i ^ j.toNat) := if_pos h
  show (binI .pow i j).map _ = _
  rw [e]; rfl
theorem mul_i (i : Int) {j : Int} (h : small64 j = true) : binD .mul (.int i) (.int j) = some (.v (.int (i * j))) := by
  show (binI .mul i j).map _ = _
  rw [mul_r _ _ h]; rfl
@[simp] theorem optk {σ α : Type} (a : α) (e : σ) : Res.opt (some a) e = .ok a e := rfl
theorem setk0 {cs : List Int} {at_ dg ct fo : Int} {T : Store} {k : Str} {d : D} {x : D} (h : lookK k [.str "cells", .str "at", .str "digits", .str "count", .str "fold"] [.lst (cs.map .int), .int at_, .int dg, .int ct, .int fo] = some x) :
    setkD (.ref 0) k d (penC cs at_ dg ct fo :: T) = some (.dct [.str "cells", .str "at", .str "digits", .str "count", .str "fold"] (putK k d [.str "cells", .str "at", .str "digits", .str "count", .str "fold"] [.lst (cs.map .int), .int at_, .int dg, .int ct, .int fo]) :: T) := by
  unfold setkD
  show (if 5 < lim then (lookK k _ _).map _ else none) = _
  rw [if_pos (by decide), h]
  rfl
section
variable {cs : List Int} {at_ dg ct fo many : Int} {T : Store} {x2 x3 x4 : Option SV}
def pr (many : Int) (x2 x3 x4 : Option SV) : List (Option SV) := [some (.v (.ref 0)), some (.v (.int many)), x2, x3, x4]
theorem d_count : evS [] (.setk (.var 0) "count" (.bin .add (.idx (.var 0) (.str "count")) (.int 1))) ⟨pr many x2 x3 x4, penC cs at_ dg ct fo :: T⟩ = .ok .nx ⟨pr many x2 x3 x4, penC cs at_ dg (ct + 1) fo :: T⟩ := by
  kernel_rfl
/-- digits are drawn from -/
theorem d_dig (hd : 0 < dg) (m0 : 0 < many) (m1 : many < 1073741824) {b : Sm} : evS [] (.seq (.ite (.cmp .gt (.idx (.var 0) (.str "digits")) (.int 0)) (.seq (.asg (.v 3) (.bin .mod (.bi .int (.cons (.idx (.var 0) (.str "digits")) .nil)) (.var 1))) (.seq (.setk (.var 0) "digits" (.bin .fdiv (.idx (.var 0) (.str "digits")) (.var 1))) (.seq (.ret (.var 3)) .skip))) .skip) b) ⟨pr many x2 x3 x4, penC cs at_ dg ct fo :: T⟩ =
    .ok (.rt (.int (dg.fmod many))) ⟨pr many x2 (some (.v (.int (dg.fmod many)))) x4, penC cs at_ (dg.fdiv many) ct fo :: T⟩ := by
  refine sSeqR ?_
  refine (sIteT (e1 := ⟨pr many x2 x3 x4, penC cs at_ dg ct fo :: T⟩) ?_).trans ?_
  · have : toD (ev [] (.cmp .gt (.idx (.var 0) (.str "digits")) (.int 0)) ⟨pr many x2 x3 x4, penC cs at_ dg ct fo :: T⟩) = .ok (.bl (decide (0 < dg))) ⟨pr many x2 x3 x4, penC cs at_ dg ct fo :: T⟩ := by kernel_rfl
    rw [this, decide_eq_true hd]
  · refine (sSeq (e1 := ⟨pr many x2 (some (.v (.int (dg.fmod many)))) x4, penC cs at_ dg ct fo :: T⟩) (sAsg (d := .int (dg.fmod many)) (e1 := ⟨pr many x2 x3 x4, penC cs at_ dg ct fo :: T⟩) (dV (bBin (d1 := .int dg) (d2 := .int many) (e1 := ⟨pr many x2 x3 x4, penC cs at_ dg ct fo :: T⟩) (by kernel_rfl) (by kernel_rfl) ?_)) (by kernel_rfl))).trans ?_
    · show (if many ≠ 0 then some (dg.fmod many) else none).map _ = _
      rw [if_pos (by omega)]; rfl
    · refine (sSeq (e1 := ⟨pr many x2 (some (.v (.int (dg.fmod many)))) x4, penC cs at_ (dg.fdiv many) ct fo :: T⟩) (sSetk (d1 := .int (dg.fdiv many)) (d2 := .ref 0) (e2 := ⟨pr many x2 (some (.v (.int (dg.fmod many)))) x4, penC cs at_ dg ct fo :: T⟩) (e1 := ⟨pr many x2 (some (.v (.int (dg.fmod many)))) x4, penC cs at_ dg ct fo :: T⟩) (dV (bBin (d1 := .int dg) (d2 := .int many) (e1 := ⟨pr many x2 (some (.v (.int (dg.fmod many)))) x4, penC cs at_ dg ct fo :: T⟩) (by kernel_rfl) (by kernel_rfl) ?_)) (by kernel_rfl) (by kernel_rfl))).trans ?_
      · show (if many ≠ 0 ∧ many.natAbs < 1073741824 then some (dg.fdiv many) else none).map _ = _
        rw [if_pos (by omega)]; rfl
      · kernel_rfl
theorem d_nodig (hd : dg = 0) {b : Sm} : evS [] (.seq (.ite (.cmp .gt (.idx (.var 0) (.str "digits")) (.int 0)) (.seq (.asg (.v 3) (.bin .mod (.bi .int (.cons (.idx (.var 0) (.str "digits")) .nil)) (.var 1))) (.seq (.setk (.var 0) "digits" (.bin .fdiv (.idx (.var 0) (.str "digits")) (.var 1))) (.seq (.ret (.var 3)) .skip))) .skip) b) ⟨pr many x2 x3 x4, penC cs at_ dg ct fo :: T⟩ =
    evS [] b ⟨pr many x2 x3 x4, penC cs at_ dg ct fo :: T⟩ := by
  subst hd
  refine sSeq ?_
  kernel_rfl
/-- the blend -/
def blendN (ct fo : Int) : Int := fo + ct * 5939 + 139
theorem d_blend (m0 : 0 < many) (c0 : 0 ≤ ct) (c1 : ct ≤ 1000001) (f0 : 0 ≤ fo) (f1 : fo < 2147483149) : ∃ v : Int, evS [] (.seq (.asg (.v 4) (.bin .add (.bin .add (.idx (.var 0) (.str "fold")) (.bin .mul (.idx (.var 0) (.str "count")) (.int 5939))) (.int 139))) (.seq (.ret (.bin .mod (.bin .fdiv (.bi .int (.cons (.bin .mod (.bin .pow (.var 4) (.int 55)) (.int 2305843009213693951)) .nil)) (.int 1024)) (.var 1))) .skip)) ⟨pr many x2 x3 x4, penC cs at_ dg ct fo :: T⟩ =
    .ok (.rt (.int (v.fmod many))) ⟨pr many x2 x3 (some (.v (.int (blendN ct fo)))), penC cs at_ dg ct fo :: T⟩ := by
  let e0 : Env := ⟨pr many x2 x3 x4, penC cs at_ dg ct fo :: T⟩
  let e1 : Env := ⟨pr many x2 x3 (some (.v (.int (blendN ct fo)))), penC cs at_ dg ct fo :: T⟩
  have hb : 0 ≤ blendN ct fo ∧ (blendN ct fo).natAbs < 18446744073709551616 := by unfold blendN; omega
  refine ⟨((blendN ct fo ^ (55 : Int).toNat).fmod 2305843009213693951).fdiv 1024, (sSeq (e1 := e1) (sAsg (d := .int (blendN ct fo)) (e1 := e0) (dV (bBin (d1 := .int (fo + ct * 5939)) (d2 := .int 139) (e1 := e0) (dV (bBin (d1 := .int fo) (d2 := .int (ct * 5939)) (e1 := e0) (by kernel_rfl) (dV (bBin (d1 := .int ct) (d2 := .int 5939) (e1 := e0) (by kernel_rfl) (by kernel_rfl) ?_)) (by kernel_rfl))) (by kernel_rfl) (by kernel_rfl))) (by kernel_rfl))).trans ?_⟩
  · show (binI .mul ct 5939).map _ = _
    rw [mul_r _ _ (by decide)]; rfl
  · refine sSeqR (sRet (dV (bBin (d1 := .int (((blendN ct fo ^ (55 : Int).toNat).fmod 2305843009213693951).fdiv 1024)) (d2 := .int many) (e1 := e1) (dV (bBin (d1 := .int ((blendN ct fo ^ (55 : Int).toNat).fmod 2305843009213693951)) (d2 := .int 1024) (e1 := e1) (dV (bBi (ds := [.int ((blendN ct fo ^ (55 : Int).toNat).fmod 2305843009213693951)]) (e1 := e1) (bCons (e1 := e1) (dV (bBin (d1 := .int (blendN ct fo ^ (55 : Int).toNat)) (d2 := .int 2305843009213693951) (e1 := e1) (dV (bBin (d1 := .int (blendN ct fo)) (d2 := .int 55) (e1 := e1) (by kernel_rfl) (by kernel_rfl) ?_)) (by kernel_rfl) ?_)) (by kernel_rfl)) (by kernel_rfl))) (by kernel_rfl) ?_)) (by kernel_rfl) ?_)))
    · exact pow_i ⟨by decide, by decide, hb.2⟩
    · exact mod_i _ (by decide)
    · exact fdiv_i _ ⟨by decide, by decide⟩
    · exact mod_i _ (by omega)
/-- a cell of the script, where there is one -/
def cellS : Sm := (.ite (.and (.cmp .eq (.idx (.var 0) (.str "digits")) (.int 0)) (.cmp .lt (.idx (.var 0) (.str "at")) (.bi .len (.cons (.idx (.var 0) (.str "cells")) .nil)))) (.seq (.asg (.v 2) (.idx (.idx (.var 0) (.str "cells")) (.idx (.var 0) (.str "at")))) (.seq (.setk (.var 0) "at" (.bin .add (.idx (.var 0) (.str "at")) (.int 1))) (.seq (.ite (.cmp .ge (.var 2) (.bin .pow (.int 10) (.int 18))) (.seq (.setk (.var 0) "digits" (.bin .sub (.var 2) (.bin .pow (.int 10) (.int 18)))) .skip) (.seq (.setk (.var 0) "fold" (.bin .mod (.bi .int (.cons (.bin .add (.bin .mul (.idx (.var 0) (.str "fold")) (.int 28711)) (.var 2)) .nil)) (.int 2147483149))) .skip)) .skip))) .skip)
theorem d_cell (P : PenOk cs at_ dg ct fo) : ∃ x2' at2 dg2 fo2, evS [] cellS ⟨pr many x2 x3 x4, penC cs at_ dg ct fo :: T⟩ = .ok .nx ⟨pr many x2' x3 x4, penC cs at2 dg2 ct fo2 :: T⟩ ∧ PenOk cs at2 dg2 ct fo2 := by
  let e0 : Env := ⟨pr many x2 x3 x4, penC cs at_ dg ct fo :: T⟩
  have t1 : toD (ev [] (.cmp .eq (.idx (.var 0) (.str "digits")) (.int 0)) e0) = .ok (.bl (decide (dg = 0))) e0 := dV (bCmp (d1 := .int dg) (d2 := .int 0) (e1 := e0) (by kernel_rfl) (by kernel_rfl) (eqD_int _ _))
  have t2 : toD (ev [] (.cmp .lt (.idx (.var 0) (.str "at")) (.bi .len (.cons (.idx (.var 0) (.str "cells")) .nil))) e0) = .ok (.bl (decide (at_ < ((cs.map D.int).length : Int)))) e0 := by kernel_rfl
  by_cases hd : dg = 0
  case neg =>
    rw [decide_eq_false hd] at t1
    exact ⟨x2, at_, dg, fo, sIteF (e1 := e0) (dV (bAndF t1)), P⟩
  rw [decide_eq_true hd] at t1
  by_cases ha : at_ < ((cs.map D.int).length : Int)
  case neg =>
    rw [decide_eq_false ha] at t2
    exact ⟨x2, at_, dg, fo, (sIteF (e1 := e0) (by rw [show toD (ev [] (.and _ _) e0) = _ from congrArg toD (bAndT t1)]; exact t2)).trans rfl, P⟩
  rw [decide_eq_true ha] at t2
  rw [List.length_map] at ha
  obtain ⟨n, rfl⟩ := Int.eq_ofNat_of_zero_le P.a0
  have hn : n < cs.length := by omega
  let c := cs[n]
  have hc : atI (cs.map D.int) (n : Int) = some (.int c) := by
    refine L2.atI_nat ?_
    rw [List.getElem?_map, List.getElem?_eq_getElem hn]; rfl
  let e1 : Env := ⟨pr many (some (.v (.int c))) x3 x4, penC cs n dg ct fo :: T⟩
  let e2 : Env := ⟨pr many (some (.v (.int c))) x3 x4, penC cs (n + 1) dg ct fo :: T⟩
  have s1 : evS [] (.asg (.v 2) (.idx (.idx (.var 0) (.str "cells")) (.idx (.var 0) (.str "at")))) e0 = .ok .nx e1 := sAsg (d := .int c) (e1 := e0) (dV (bIdx (d1 := .lst (cs.map .int)) (d2 := .int n) (e1 := e0) (by kernel_rfl) (by kernel_rfl) hc)) (by kernel_rfl)
  have s2 : evS [] (.setk (.var 0) "at" (.bin .add (.idx (.var 0) (.str "at")) (.int 1))) e1 = .ok .nx e2 := by kernel_rfl
  have t3 : toD (ev [] (.cmp .ge (.var 2) (.bin .pow (.int 10) (.int 18))) e2) = .ok (.bl (decide ((10 : Int) ^ (18 : Nat) ≤ c))) e2 := by kernel_rfl
  have pre : evS [] cellS e0 = evS [] (.seq (.ite (.cmp .ge (.var 2) (.bin .pow (.int 10) (.int 18))) (.seq (.setk (.var 0) "digits" (.bin .sub (.var 2) (.bin .pow (.int 10) (.int 18)))) .skip) (.seq (.setk (.var 0) "fold" (.bin .mod (.bi .int (.cons (.bin .add (.bin .mul (.idx (.var 0) (.str "fold")) (.int 28711)) (.var 2)) .nil)) (.int 2147483149))) .skip)) .skip) e2 :=
    (sIteT (e1 := e0) (by rw [show toD (ev [] (.and _ _) e0) = _ from congrArg toD (bAndT t1)]; exact t2)).trans ((sSeq s1).trans (sSeq s2))
  by_cases hg : (10 : Int) ^ (18 : Nat) ≤ c
  · rw [decide_eq_true hg] at t3
    let e3 : Env := ⟨pr many (some (.v (.int c))) x3 x4, penC cs (n + 1) (c - 10 ^ (18 : Nat)) ct fo :: T⟩
    have r1 : ∀ b, evS [] (.ite (.cmp .ge (.var 2) (.bin .pow (.int 10) (.int 18))) (.seq (.setk (.var 0) "digits" (.bin .sub (.var 2) (.bin .pow (.int 10) (.int 18)))) .skip) b) e2 = .ok .nx e3 := fun b => (sIteT t3).trans (by kernel_rfl)
    exact ⟨some (.v (.int c)), n + 1, c - 10 ^ (18 : Nat), fo, pre.trans ((sSeq (r1 _)).trans rfl), ⟨by omega, by omega, P.c0, P.f0, P.f1⟩⟩
  · rw [decide_eq_false hg] at t3
    let f2 := (fo * 28711 + c).fmod 2147483149
    let e3 : Env := ⟨pr many (some (.v (.int c))) x3 x4, penC cs (n + 1) dg ct f2 :: T⟩
    have r1 : ∀ a, evS [] (.ite (.cmp .ge (.var 2) (.bin .pow (.int 10) (.int 18))) a (.seq (.setk (.var 0) "fold" (.bin .mod (.bi .int (.cons (.bin .add (.bin .mul (.idx (.var 0) (.str "fold")) (.int 28711)) (.var 2)) .nil)) (.int 2147483149))) .skip)) e2 = .ok .nx e3 := fun a =>
      (sIteF t3).trans ((sSeq (e1 := e3) (sSetk (d1 := .int f2) (d2 := .ref 0) (e1 := e2) (e2 := e2) (dV (bBin (d1 := .int (fo * 28711 + c)) (d2 := .int 2147483149) (e1 := e2) (dV (bBi (ds := [.int (fo * 28711 + c)]) (e1 := e2) (bCons (e1 := e2) (dV (bBin (d1 := .int (fo * 28711)) (d2 := .int c) (e1 := e2) (dV (bBin (d1 := .int fo) (d2 := .int 28711) (e1 := e2) (by kernel_rfl) (by kernel_rfl) (mul_i _ (by decide)))) (by kernel_rfl) (by kernel_rfl))) (by kernel_rfl)) (by kernel_rfl))) (by kernel_rfl) (mod_i _ (by decide)))) (by kernel_rfl) (by kernel_rfl))).trans rfl)
    exact ⟨some (.v (.int c)), n + 1, dg, f2, pre.trans ((sSeq (r1 _)).trans rfl), ⟨by omega, P.d0, P.c0, (fmod_lt _ (by decide)).1, (fmod_lt _ (by decide)).2⟩⟩
/-- a draw -/
theorem draw_ok (P : PenOk cs at_ dg ct fo) (hc : ct ≤ 1000000) (m0 : 0 < many) (m1 : many < 1073741824) :
    ∃ d at2 dg2 fo2, 0 ≤ d ∧ d < many ∧ drawF [.ref 0, .int many] (penC cs at_ dg ct fo :: T) = .ok (.int d) (penC cs at2 dg2 (ct + 1) fo2 :: T) ∧ PenOk cs at2 dg2 (ct + 1) fo2 := by
  obtain ⟨x2', at2, dg2, fo2, h1, P2⟩ := d_cell (many := many) (T := T) (x2 := none) (x3 := none) (x4 := none) (cs := cs) (at_ := at_) (dg := dg) (ct := ct + 1) (fo := fo) ⟨P.a0, P.d0, by have := P.c0; omega, P.f0, P.f1⟩
  have hs : ∀ {R : Res Env Fl}, evS [] drawB ⟨pr many none none none, penC cs at_ dg ct fo :: T⟩ = R → drawF [.ref 0, .int many] (penC cs at_ dg ct fo :: T) = finS R := fun {R} h => by rw [← h]; rfl
  by_cases hd : 0 < dg2
  · exact ⟨dg2.fmod many, at2, dg2.fdiv many, fo2, (fmod_lt _ m0).1, (fmod_lt _ m0).2, hs ((sSeq d_count).trans ((sSeq h1).trans (d_dig hd m0 m1))), ⟨P2.a0, Int.fdiv_nonneg P2.d0 (by omega), P2.c0, P2.f0, P2.f1⟩⟩
  · have hz : dg2 = 0 := by have := P2.d0; omega
    obtain ⟨v, hv⟩ := d_blend (cs := cs) (at_ := at2) (dg := dg2) (T := T) (x2 := x2') (x3 := none) (x4 := none) (ct := ct + 1) (fo := fo2) m0 (by have := P.c0; omega) (by omega) P2.f0 P2.f1
    exact ⟨v.fmod many, at2, dg2, fo2, (fmod_lt _ m0).1, (fmod_lt _ m0).2, hs ((sSeq d_count).trans ((sSeq h1).trans ((d_nodig hz).trans hv))), P2⟩
end
def penF : Fn := fnS [] 1 3 penB
/-- a pen is made -/
theorem pen_ok (ns : List Int) (hl : ns.length ≤ lim) : ∃ f, penF [.lst (ns.map .int)] [] = .ok (.ref 0) [penC ns 0 0 0 f] ∧ PenOk ns 0 0 0 f := by
  let r : Option SV → Option SV → Env := fun a b => ⟨[some (.v (.lst (ns.map .int))), a, b], []⟩
  have loop : ∃ e', forLoop (fun x e2 => (Res.opt (asgT (.v 2) x e2) e2).bind fun e3 _ => evS [] (.seq (.asg (.v 1) (.bin .mod (.bi .int (.cons (.bin .add (.bin .mul (.var 1) (.int 151)) (.var 2)) .nil)) (.int 999999461))) .skip) e3) (ns.map .int) (r (some (.v (.int 0))) none) = .ok .nx e' ∧ ∃ f b, e' = r (some (.v (.int f))) b ∧ 0 ≤ f ∧ f < 999999461 := by
    refine for_keep (fun _ e' => ∃ f b, e' = r (some (.v (.int f))) b ∧ 0 ≤ f ∧ f < 999999461) (k := 0) ⟨0, none, rfl, by decide, by decide⟩ ?_
    rintro i x e hx ⟨f, b, rfl, h1, h2⟩
    rw [List.getElem?_map, Option.map_eq_some_iff] at hx
    obtain ⟨c, _, rfl⟩ := hx
    let e3 : Env := r (some (.v (.int f))) (some (.v (.int c)))
    refine ⟨r (some (.v (.int ((f * 151 + c).fmod 999999461)))) (some (.v (.int c))), ?_, _, _, rfl, (fmod_lt _ (by decide)).1, (fmod_lt _ (by decide)).2⟩
    show evS [] (.seq (.asg (.v 1) _) .skip) e3 = _
    exact (sSeq (sAsg (d := .int ((f * 151 + c).fmod 999999461)) (e1 := e3) (dV (bBin (d1 := .int (f * 151 + c)) (d2 := .int 999999461) (e1 := e3) (dV (bBi (ds := [.int (f * 151 + c)]) (e1 := e3) (bCons (e1 := e3) (dV (bBin (d1 := .int (f * 151)) (d2 := .int c) (e1 := e3) (dV (bBin (d1 := .int f) (d2 := .int 151) (e1 := e3) (by kernel_rfl) (by kernel_rfl) (mul_i _ (by decide)))) (by kernel_rfl) (by kernel_rfl))) (by kernel_rfl)) (by kernel_rfl))) (by kernel_rfl) (mod_i _ (by decide)))) (by kernel_rfl))).trans rfl
  obtain ⟨e', h, f, b, rfl, f0, f1⟩ := loop
  refine ⟨f, ?_, ⟨by decide, by decide, by decide, f0, by omega⟩⟩
  have hs : ∀ {R : Res Env Fl}, evS [] penB (r none none) = R → penF [.lst (ns.map .int)] [] = finS R := fun {R} h => by rw [← h]; rfl
  refine hs (R := .ok (.rt (.ref 0)) ⟨[some (.v (.lst (ns.map .int))), some (.v (.int f)), b], [penC ns 0 0 0 f]⟩) ?_
  refine (sSeq (e1 := r (some (.v (.int 0))) none) (by kernel_rfl)).trans ((sSeq (e1 := r (some (.v (.int f))) b) (sFor (e1 := r (some (.v (.int 0))) none) (xs := ns.map .int) (by kernel_rfl) h)).trans ?_)
  kernel_rfl
end Ev

set_option Elab.async false
set_option linter.all false
set_option maxRecDepth 100000
set_option maxHeartbeats 4000000
/-! more of the evaluator's steps as rules -/
namespace Ev
open PySem
section
variable {G : List Fn} {e e1 e2 e3 e5 e6 : Env} {a b c x y el it : Ex} {d d1 d2 : D} {sv : SV} {own : List Nat} {t : Tg} {xs ys acc : List D}
theorem bComp (h : itemsOf (ev G it e) = .ok xs e1) (hl : xs.length ≤ lim) (hc : compLoop (compF own t (fun e3 => toD (ev G c e3)) (fun e4 => toD (ev G el e4))) xs (wipeE e1 own) [] = .ok ys e6) : ev G (.comp own t it c el) e = .ok (.ol ys) (backE e1 e6 own) := by
  show (itemsOf (ev G it e)).bind _ = _
  rw [h]
  show (if xs.length ≤ lim then (noErr (compLoop (compF own t (fun e3 => toD (ev G c e3)) (fun e4 => toD (ev G el e4))) xs (wipeE e1 own) [])).bind fun ys e6 => Res.ok (SV.ol ys) (backE e1 e6 own) else .bad) = _
  rw [if_pos hl, hc]; rfl
theorem cNil {f : D → Env → Res Env (Option D)} : compLoop f [] e acc = .ok acc e := rfl
theorem cCons {f : D → Env → Res Env (Option D)} {z : D} (h : f z e = .ok (some d) e1) : compLoop f (z :: xs) e acc = compLoop f xs e1 (acc ++ [d]) := by
  show (f z e).bind _ = _
  rw [h]; rfl
theorem cSkip {f : D → Env → Res Env (Option D)} {z : D} (h : f z e = .ok none e1) : compLoop f (z :: xs) e acc = compLoop f xs e1 acc := by
  show (f z e).bind _ = _
  rw [h]; rfl
theorem fYes {z : D} (ha : asgT t z (wipeE e2 own) = some e3) (he : toD (ev G el e3) = .ok d e5) : compF own t (fun e3 => toD (ev G .yes e3)) (fun e4 => toD (ev G el e4)) z e2 = .ok (some d) (wipeE e5 own) := by
  show (Res.opt (asgT t z (wipeE e2 own)) e2).bind _ = _
  rw [ha]
  show (toD (ev G el e3)).bind _ = _
  rw [he]; rfl
theorem fCnd {z : D} {k : Bool} (ha : asgT t z (wipeE e2 own) = some e3) (hc : toD (ev G c e3) = .ok (.bl k) e1) (he : k = true → toD (ev G el e1) = .ok d e5) (hn : k = false → e5 = e1) : compF own t (fun e3 => toD (ev G c e3)) (fun e4 => toD (ev G el e4)) z e2 = .ok (if k then some d else none) (wipeE e5 own) := by
  show (Res.opt (asgT t z (wipeE e2 own)) e2).bind _ = _
  rw [ha]
  show (toD (ev G c e3)).bind _ = _
  rw [hc]
  cases k with
  | true =>
    show (toD (ev G el e1)).bind _ = _
    rw [he rfl]; rfl
  | false =>
    rw [hn rfl]; rfl
theorem iL (h : ev G x e = .ok (.v (.lst xs)) e1) : itemsOf (ev G x e) = .ok xs e1 := by rw [h]; rfl
theorem iO (h : ev G x e = .ok (.ol xs) e1) : itemsOf (ev G x e) = .ok xs e1 := by rw [h]; rfl
theorem iT (h : ev G x e = .ok (.v (.tup xs)) e1) : itemsOf (ev G x e) = .ok xs e1 := by rw [h]; rfl
theorem bToc (h : ev G x e = .ok (.ol xs) e1) : ev G (.toc x) e = .ok (.v (.ref e1.s.length)) ⟨e1.r, e1.s ++ [.lst xs]⟩ := by
  show toCell (ev G x e) = _
  rw [h]; rfl
theorem bVarO {i : Nat} (h : e.get i = some (.ol xs)) : ev G (.var i) e = .ok (.v (.lst xs)) (e.set i (some (.v (.lst xs)))) := by
  show rdV e i = _
  unfold rdV
  rw [h]
theorem sAppc (h1 : toD (ev G a e) = .ok d1 e1) (h2 : cellL d1 e1.s = some xs) (h3 : toD (ev G x e1) = .ok d e2) {S : Store} (h : appD d1 d e2.s = some S) : evS G (.appc a x) e = .ok .nx ⟨e2.r, S⟩ := by
  show (toD (ev G a e)).bind _ = _
  rw [h1]
  show (Res.opt (cellL d1 e1.s) e1).bind _ = _
  rw [h2]
  show (toD (ev G x e1)).bind _ = _
  rw [h3]
  show (Res.opt (appD d1 d e2.s) e2).bind _ = _
  rw [h]; rfl
theorem cellL_of {n : Nat} {S : Store} (h : S[n]? = some (.lst xs)) : cellL (.ref n) S = some xs := by
  show (match S[n]? with
    | some (Cell.lst xs) => some xs
    | _ => none) = _
  rw [h]
theorem appD_of {n : Nat} {S : Store} (h : S[n]? = some (.lst xs)) (hl : xs.length < lim) : appD (.ref n) d S = some (S.set n (.lst (xs ++ [d]))) := by
  show (cellL (.ref n) S).bind _ = _
  rw [cellL_of h]
  exact if_pos hl
theorem tyOf_lst {n : Nat} {S : Store} (h : S[n]? = some (.lst xs)) : tyOf (.ref n) S = some .list := by
  show (match S[n]? with
    | some (.ins c _ _) => some (Ty.cls c)
    | some (.lst _) => some .list
    | some (.dct _ _) => some .dict
    | none => none) = _
  rw [h]
theorem tyOf_ins {n c : Nat} {S : Store} {fs : List Str} {vs : List D} (h : S[n]? = some (.ins c fs vs)) : tyOf (.ref n) S = some (.cls c) := by
  show (match S[n]? with
    | some (.ins c _ _) => some (Ty.cls c)
    | some (.lst _) => some .list
    | some (.dct _ _) => some .dict
    | none => none) = _
  rw [h]
theorem sameD_of {n m c c' : Nat} {cs : List Nat} {S : Store} {fs fs' : List Str} {vs vs' : List D} (h : S[n]? = some (.ins c fs vs)) (h' : S[m]? = some (.ins c' fs' vs')) (hc : c ∈ cs) (hc' : c' ∈ cs) : sameD (.ref n) (.ref m) cs S = some (decide (n = m)) := by
  show (match S[n]?, S[m]? with
    | some (.ins c _ _), some (.ins d _ _) => if c ∈ cs ∧ d ∈ cs then some (decide (n = m)) else none
    | _, _ => none) = _
  rw [h, h']
  exact if_pos ⟨hc, hc'⟩
theorem add_l {xs ys : List D} (h : xs.length + ys.length ≤ lim) : binD .add (.lst xs) (.lst ys) = some (.ol (xs ++ ys)) := by
  show (if Bop.add = Bop.add ∧ xs.length + ys.length ≤ lim then some (SV.ol (xs ++ ys)) else none) = _
  rw [if_pos ⟨rfl, h⟩]
theorem eqD_str {x y : Str} (hx : PyData.strOk x = true) (hy : PyData.strOk y = true) : eqD (.str x) (.str y) = some (decide (x = y)) := by
  show (if SeqAt.shaped (.str x) = true ∧ SeqAt.shaped (.str y) = true then some (PyData.eqv (.str x) (.str y)) else none) = _
  have h : ∀ x : Str, PyData.strOk x = true → SeqAt.shaped (.str x) = true := fun x h => by simp [SeqAt.shaped, PyData.canLay0, PyData.depth, h]
  rw [if_pos ⟨h x hx, h y hy⟩]
  show some (x == y) = _
  congr 1
end
end Ev

set_option Elab.async false
set_option linter.all false
set_option maxRecDepth 100000
set_option maxHeartbeats 0
namespace Lw
open PySem PySem.Spec PyProof.Rows L2 Ev
def bn : List PySem.Str := ["int", "isinstance", "len", "list", "range", "repr", "tuple"]
def gall_0 : List PySem.Str := ["copied", "_law_pen", "_law_draw", "_law_bare", "_law_copy", "_law_pick", "", "", "", "", "", "", "", "", "", "", "", "", "", "", "", "", "", "", "", "", "", "", "", ""]
def gall_1 : List PySem.Str := ["", "", "", "", "", "", "", "_law_value", "_law_made_a", "_law_made_b", "_law_made_c", "law"]
def gall : List PySem.Str := gall_0 ++ gall_1
def gaF (K : PySem.W.Frag) (g : Nat) : Addr := He.ga K (gall.getD g "")
def G0 : List Fn := []
def gn0 : List PySem.Str := []
/-- copied -/
def n0 : List PySem.Str := ["value"]
def b0 : Sm := (.seq (.ret (.ite (.isi (.var 0) [.list] []) (.bi .tuple (.cons (.var 0) .nil)) (.var 0))) .skip)
def f0 : Fn := fnS G0 1 1 b0
def c0 : Chk := ⟨n0, gn0, bn, tT, 0⟩
/-- _law_pen -/
def n1 : List PySem.Str := ["script", "fold", "cell"]
def b1 : Sm := (.seq (.asg (.v 1) (.int 0)) (.seq (.for_ (.v 2) (.var 0) (.seq (.asg (.v 1) (.bin .mod (.bi .int (.cons (.bin .add (.bin .mul (.var 1) (.int 151)) (.var 2)) .nil)) (.int 999999461))) .skip)) (.seq (.ret (.toc (.ddisp ["cells", "at", "digits", "count", "fold"] (.cons (.bi .list (.cons (.var 0) .nil)) (.cons (.int 0) (.cons (.int 0) (.cons (.int 0) (.cons (.var 1) .nil)))))))) .skip)))
def f1 : Fn := fnS G0 1 3 b1
def c1 : Chk := ⟨n1, gn0, bn, tT, 0⟩
/-- _law_draw -/
def n2 : List PySem.Str := ["pen", "many", "cell", "digit", "blend"]
def b2 : Sm := (.seq (.setk (.var 0) "count" (.bin .add (.idx (.var 0) (.str "count")) (.int 1))) (.seq (.ite (.and (.cmp .eq (.idx (.var 0) (.str "digits")) (.int 0)) (.cmp .lt (.idx (.var 0) (.str "at")) (.bi .len (.cons (.idx (.var 0) (.str "cells")) .nil)))) (.seq (.asg (.v 2) (.idx (.idx (.var 0) (.str "cells")) (.idx (.var 0) (.str "at")))) (.seq (.setk (.var 0) "at" (.bin .add (.idx (.var 0) (.str "at")) (.int 1))) (.seq (.ite (.cmp .ge (.var 2) (.bin .pow (.int 10) (.int 18))) (.seq (.setk (.var 0) "digits" (.bin .sub (.var 2) (.bin .pow (.int 10) (.int 18)))) .skip) (.seq (.setk (.var 0) "fold" (.bin .mod (.bi .int (.cons (.bin .add (.bin .mul (.idx (.var 0) (.str "fold")) (.int 28711)) (.var 2)) .nil)) (.int 2147483149))) .skip)) .skip))) .skip) (.seq (.ite (.cmp .gt (.idx (.var 0) (.str "digits")) (.int 0)) (.seq (.asg (.v 3) (.bin .mod (.bi .int (.cons (.idx (.var 0) (.str "digits")) .nil)) (.var 1))) (.seq (.setk (.var 0) "digits" (.bin .fdiv (.idx (.var 0) (.str "digits")) (.var 1))) (.seq (.ret (.var 3)) .skip))) .skip) (.seq (.asg (.v 4) (.bin .add (.bin .add (.idx (.var 0) (.str "fold")) (.bin .mul (.idx (.var 0) (.str "count")) (.int 5939))) (.int 139))) (.seq (.ret (.bin .mod (.bin .fdiv (.bi .int (.cons (.bin .mod (.bin .pow (.var 4) (.int 55)) (.int 2305843009213693951)) .nil)) (.int 1024)) (.var 1))) .skip)))))
def f2 : Fn := fnS G0 2 5 b2
def c2 : Chk := ⟨n2, gn0, bn, tT, 0⟩
/-- _law_bare -/
def n3 : List PySem.Str := ["rows", "one", "two"]
def b3 : Sm := (.seq (.own 0 (.disp .nil)) (.seq (.par 1 2 (.toc (.newx 22 none [] .nil)) (.toc (.newx 22 none [] .nil))) (.seq (.app 0 (.tup (.cons (.var 1) (.cons (.var 2) (.cons (.isi (.var 1) [(.cls 22)] [22]) (.cons (.disp .nil) (.cons (.disp .nil) (.cons (.disp .nil) .nil)))))))) (.seq (.par 1 2 (.toc (.newx 24 none [] .nil)) (.toc (.newx 24 none [] .nil))) (.seq (.app 0 (.tup (.cons (.var 1) (.cons (.var 2) (.cons (.isi (.var 1) [(.cls 24)] [24]) (.cons (.disp .nil) (.cons (.disp .nil) (.cons (.disp .nil) .nil)))))))) (.seq (.par 1 2 (.toc (.newx 0 none [] .nil)) (.toc (.newx 0 none [] .nil))) (.seq (.app 0 (.tup (.cons (.var 1) (.cons (.var 2) (.cons (.isi (.var 1) [(.cls 0)] [0]) (.cons (.disp .nil) (.cons (.disp .nil) (.cons (.disp .nil) .nil)))))))) (.seq (.par 1 2 (.toc (.newx 30 none [] .nil)) (.toc (.newx 30 none [] .nil))) (.seq (.app 0 (.tup (.cons (.var 1) (.cons (.var 2) (.cons (.isi (.var 1) [(.cls 30)] [30]) (.cons (.disp .nil) (.cons (.disp .nil) (.cons (.disp .nil) .nil)))))))) (.seq (.par 1 2 (.toc (.newx 32 none [] .nil)) (.toc (.newx 32 none [] .nil))) (.seq (.app 0 (.tup (.cons (.var 1) (.cons (.var 2) (.cons (.isi (.var 1) [(.cls 32)] [32]) (.cons (.disp .nil) (.cons (.disp .nil) (.cons (.disp .nil) .nil)))))))) (.seq (.par 1 2 (.toc (.newx 14 none [] .nil)) (.toc (.newx 14 none [] .nil))) (.seq (.app 0 (.tup (.cons (.var 1) (.cons (.var 2) (.cons (.isi (.var 1) [(.cls 14)] [14]) (.cons (.disp .nil) (.cons (.disp .nil) (.cons (.disp .nil) .nil)))))))) (.seq (.par 1 2 (.toc (.newx 16 none [] .nil)) (.toc (.newx 16 none [] .nil))) (.seq (.app 0 (.tup (.cons (.var 1) (.cons (.var 2) (.cons (.isi (.var 1) [(.cls 16)] [16]) (.cons (.disp .nil) (.cons (.disp .nil) (.cons (.disp .nil) .nil)))))))) (.seq (.par 1 2 (.toc (.newx 18 none [] .nil)) (.toc (.newx 18 none [] .nil))) (.seq (.app 0 (.tup (.cons (.var 1) (.cons (.var 2) (.cons (.isi (.var 1) [(.cls 18)] [18]) (.cons (.disp .nil) (.cons (.disp .nil) (.cons (.disp .nil) .nil)))))))) (.seq (.par 1 2 (.toc (.newx 36 none [] .nil)) (.toc (.newx 36 none [] .nil))) (.seq (.app 0 (.tup (.cons (.var 1) (.cons (.var 2) (.cons (.isi (.var 1) [(.cls 36)] [36]) (.cons (.disp .nil) (.cons (.disp .nil) (.cons (.disp .nil) .nil)))))))) (.seq (.par 1 2 (.toc (.newx 38 none [] .nil)) (.toc (.newx 38 none [] .nil))) (.seq (.app 0 (.tup (.cons (.var 1) (.cons (.var 2) (.cons (.isi (.var 1) [(.cls 38)] [38]) (.cons (.disp .nil) (.cons (.disp .nil) (.cons (.disp .nil) .nil)))))))) (.seq (.ret (.var 0)) .skip))))))))))))))))))))))
def f3 : Fn := fnS G0 0 3 b3
def c3 : Chk := ⟨n3, gn0, bn, tT, 0⟩
/-- _law_copy -/
def n4 : List PySem.Str := ["value"]
def b4 : Sm := (.seq (.ret (.ite (.isi (.var 0) [.list] []) (.bi .tuple (.cons (.var 0) .nil)) (.var 0))) .skip)
def f4 : Fn := fnS G0 1 1 b4
def c4 : Chk := ⟨n4, gn0, bn, tT, 0⟩
def G1 : List Fn := G0 ++ [f0, f1, f2, f3, f4]
def gn1 : List PySem.Str := gn0 ++ (["copied", "_law_pen", "_law_draw", "_law_bare", "_law_copy"] : List PySem.Str)
/-- _law_pick -/
def n5 : List PySem.Str := ["pen", "some"]
def b5 : Sm := (.seq (.ret (.idx (.var 1) (.call 2 (.cons (.var 0) (.cons (.bi .len (.cons (.var 1) .nil)) .nil))))) .skip)
def f5 : Fn := fnS G1 2 2 b5
def c5 : Chk := ⟨n5, gn1, bn, tT, 5⟩
def G2 : List Fn := G1 ++ [f5]
def gn2 : List PySem.Str := gn1 ++ (["_law_pick"] : List PySem.Str)
/-- Four.__init__ -/
def n6 : List PySem.Str := ["self", "lot", "things"]
def b6 : List (PySem.Str × Ex) := [("lot", (.call 0 (.cons (.var 1) .nil))), ("things", (.call 0 (.cons (.var 2) .nil)))]
def f6 : Fn := fnI G1 1 2 3 b6
def c6 : Chk := ⟨n6, gn1, bn, tT, 5⟩
/-- MeetBreak.__init__ -/
def n7 : List PySem.Str := ["self", "ring", "cut"]
def b7 : List (PySem.Str × Ex) := [("ring", (.call 0 (.cons (.var 1) .nil))), ("cut", (.call 0 (.cons (.var 2) .nil)))]
def f7 : Fn := fnI G1 2 2 3 b7
def c7 : Chk := ⟨n7, gn1, bn, tT, 5⟩
/-- SumBreak.__init__ -/
def n8 : List PySem.Str := ["self", "one", "other"]
def b8 : List (PySem.Str × Ex) := [("one", (.call 0 (.cons (.var 1) .nil))), ("other", (.call 0 (.cons (.var 2) .nil)))]
def f8 : Fn := fnI G1 3 2 3 b8
def c8 : Chk := ⟨n8, gn1, bn, tT, 5⟩
/-- BaseBreak.__init__ -/
def n9 : List PySem.Str := ["self", "base", "ring"]
def b9 : List (PySem.Str × Ex) := [("base", (.call 0 (.cons (.var 1) .nil))), ("ring", (.call 0 (.cons (.var 2) .nil)))]
def f9 : Fn := fnI G1 4 2 3 b9
def c9 : Chk := ⟨n9, gn1, bn, tT, 5⟩
/-- FlatBreak.__init__ -/
def n10 : List PySem.Str := ["self", "flat", "above"]
def b10 : List (PySem.Str × Ex) := [("flat", (.call 0 (.cons (.var 1) .nil))), ("above", (.call 0 (.cons (.var 2) .nil)))]
def f10 : Fn := fnI G1 5 2 3 b10
def c10 : Chk := ⟨n10, gn1, bn, tT, 5⟩
/-- ExchangeBreak.__init__ -/
def n11 : List PySem.Str := ["self", "one", "other", "thing"]
def b11 : List (PySem.Str × Ex) := [("one", (.call 0 (.cons (.var 1) .nil))), ("other", (.call 0 (.cons (.var 2) .nil))), ("thing", (.call 0 (.cons (.var 3) .nil)))]
def f11 : Fn := fnI G1 6 3 4 b11
def c11 : Chk := ⟨n11, gn1, bn, tT, 5⟩
/-- InBoth.__init__ -/
def n12 : List PySem.Str := ["self", "lot"]
def b12 : List (PySem.Str × Ex) := [("lot", (.call 0 (.cons (.var 1) .nil)))]
def f12 : Fn := fnI G1 7 1 2 b12
def c12 : Chk := ⟨n12, gn1, bn, tT, 5⟩
/-- RingLess.__init__ -/
def n13 : List PySem.Str := ["self", "lot"]
def b13 : List (PySem.Str × Ex) := [("lot", (.call 0 (.cons (.var 1) .nil)))]
def f13 : Fn := fnI G1 8 1 2 b13
def c13 : Chk := ⟨n13, gn1, bn, tT, 5⟩
/-- CutLess.__init__ -/
def n14 : List PySem.Str := ["self", "lot"]
def b14 : List (PySem.Str × Ex) := [("lot", (.call 0 (.cons (.var 1) .nil)))]
def f14 : Fn := fnI G1 9 1 2 b14
def c14 : Chk := ⟨n14, gn1, bn, tT, 5⟩
/-- EvenTable.__init__ -/
def n15 : List PySem.Str := ["self", "rows"]
def b15 : List (PySem.Str × Ex) := [("rows", (.call 0 (.cons (.var 1) .nil)))]
def f15 : Fn := fnI G1 10 1 2 b15
def c15 : Chk := ⟨n15, gn1, bn, tT, 5⟩
/-- ThreeTable.__init__ -/
def n16 : List PySem.Str := ["self", "rows"]
def b16 : List (PySem.Str × Ex) := [("rows", (.call 0 (.cons (.var 1) .nil)))]
def f16 : Fn := fnI G1 11 1 2 b16
def c16 : Chk := ⟨n16, gn1, bn, tT, 5⟩
/-- Signed.__init__ -/
def n17 : List PySem.Str := ["self", "rows"]
def b17 : List (PySem.Str × Ex) := [("rows", (.call 0 (.cons (.var 1) .nil)))]
def f17 : Fn := fnI G1 12 1 2 b17
def c17 : Chk := ⟨n17, gn1, bn, tT, 5⟩
/-- SevenAt.__init__ -/
def n18 : List PySem.Str := ["self", "kind", "names"]
def b18 : List (PySem.Str × Ex) := [("kind", (.call 0 (.cons (.var 1) .nil))), ("names", (.call 0 (.cons (.var 2) .nil)))]
def f18 : Fn := fnI G1 13 2 3 b18
def c18 : Chk := ⟨n18, gn1, bn, tT, 5⟩
/-- UnitNot.__init__ -/
def n19 : List PySem.Str := ["self", "lines", "columns"]
def b19 : List (PySem.Str × Ex) := [("lines", (.call 0 (.cons (.var 1) .nil))), ("columns", (.call 0 (.cons (.var 2) .nil)))]
def f19 : Fn := fnI G1 15 2 3 b19
def c19 : Chk := ⟨n19, gn1, bn, tT, 5⟩
/-- SumNot.__init__ -/
def n20 : List PySem.Str := ["self", "lines", "columns"]
def b20 : List (PySem.Str × Ex) := [("lines", (.call 0 (.cons (.var 1) .nil))), ("columns", (.call 0 (.cons (.var 2) .nil)))]
def f20 : Fn := fnI G1 17 2 3 b20
def c20 : Chk := ⟨n20, gn1, bn, tT, 5⟩
/-- PartsNot.__init__ -/
def n21 : List PySem.Str := ["self", "lines"]
def b21 : List (PySem.Str × Ex) := [("lines", (.call 0 (.cons (.var 1) .nil)))]
def f21 : Fn := fnI G1 19 1 2 b21
def c21 : Chk := ⟨n21, gn1, bn, tT, 5⟩
/-- EvenCover.__init__ -/
def n22 : List PySem.Str := ["self", "lots"]
def b22 : List (PySem.Str × Ex) := [("lots", (.call 0 (.cons (.var 1) .nil)))]
def f22 : Fn := fnI G1 20 1 2 b22
def c22 : Chk := ⟨n22, gn1, bn, tT, 5⟩
/-- WholeFlow.__init__ -/
def n23 : List PySem.Str := ["self", "row"]
def b23 : List (PySem.Str × Ex) := [("row", (.call 0 (.cons (.var 1) .nil)))]
def f23 : Fn := fnI G1 21 1 2 b23
def c23 : Chk := ⟨n23, gn1, bn, tT, 5⟩
/-- EvenWays.__init__ -/
def n24 : List PySem.Str := ["self", "one", "other", "thing"]
def b24 : List (PySem.Str × Ex) := [("one", (.call 0 (.cons (.var 1) .nil))), ("other", (.call 0 (.cons (.var 2) .nil))), ("thing", (.call 0 (.cons (.var 3) .nil)))]
def f24 : Fn := fnI G1 23 3 4 b24
def c24 : Chk := ⟨n24, gn1, bn, tT, 5⟩
/-- ManyOver.__init__ -/
def n25 : List PySem.Str := ["self", "flat", "above"]
def b25 : List (PySem.Str × Ex) := [("flat", (.call 0 (.cons (.var 1) .nil))), ("above", (.call 0 (.cons (.var 2) .nil)))]
def f25 : Fn := fnI G1 25 2 3 b25
def c25 : Chk := ⟨n25, gn1, bn, tT, 5⟩
/-- FreeCover.__init__ -/
def n26 : List PySem.Str := ["self", "lots", "lot"]
def b26 : List (PySem.Str × Ex) := [("lots", (.call 0 (.cons (.var 1) .nil))), ("lot", (.call 0 (.cons (.var 2) .nil)))]
def f26 : Fn := fnI G1 26 2 3 b26
def c26 : Chk := ⟨n26, gn1, bn, tT, 5⟩
/-- LoneRing.__init__ -/
def n27 : List PySem.Str := ["self", "thing"]
def b27 : List (PySem.Str × Ex) := [("thing", (.call 0 (.cons (.var 1) .nil)))]
def f27 : Fn := fnI G1 27 1 2 b27
def c27 : Chk := ⟨n27, gn1, bn, tT, 5⟩
/-- BasePack.__init__ -/
def n28 : List PySem.Str := ["self", "bases", "lot"]
def b28 : List (PySem.Str × Ex) := [("bases", (.call 0 (.cons (.var 1) .nil))), ("lot", (.call 0 (.cons (.var 2) .nil)))]
def f28 : Fn := fnI G1 28 2 3 b28
def c28 : Chk := ⟨n28, gn1, bn, tT, 5⟩
/-- HeavyBase.__init__ -/
def n29 : List PySem.Str := ["self", "base", "chain"]
def b29 : List (PySem.Str × Ex) := [("base", (.call 0 (.cons (.var 1) .nil))), ("chain", (.call 0 (.cons (.var 2) .nil)))]
def f29 : Fn := fnI G1 29 2 3 b29
def c29 : Chk := ⟨n29, gn1, bn, tT, 5⟩
/-- OwnNot.__init__ -/
def n30 : List PySem.Str := ["self", "base", "ring"]
def b30 : List (PySem.Str × Ex) := [("base", (.call 0 (.cons (.var 1) .nil))), ("ring", (.call 0 (.cons (.var 2) .nil)))]
def f30 : Fn := fnI G1 31 2 3 b30
def c30 : Chk := ⟨n30, gn1, bn, tT, 5⟩
/-- SumWrong.__init__ -/
def n31 : List PySem.Str := ["self", "one", "other"]
def b31 : List (PySem.Str × Ex) := [("one", (.call 0 (.cons (.var 1) .nil))), ("other", (.call 0 (.cons (.var 2) .nil)))]
def f31 : Fn := fnI G1 33 2 3 b31
def c31 : Chk := ⟨n31, gn1, bn, tT, 5⟩
/-- ShortGame.__init__ -/
def n32 : List PySem.Str := ["self", "one", "other"]
def b32 : List (PySem.Str × Ex) := [("one", (.call 0 (.cons (.var 1) .nil))), ("other", (.call 0 (.cons (.var 2) .nil)))]
def f32 : Fn := fnI G1 34 2 3 b32
def c32 : Chk := ⟨n32, gn1, bn, tT, 5⟩
/-- CutGame.__init__ -/
def n33 : List PySem.Str := ["self", "one", "other"]
def b33 : List (PySem.Str × Ex) := [("one", (.call 0 (.cons (.var 1) .nil))), ("other", (.call 0 (.cons (.var 2) .nil)))]
def f33 : Fn := fnI G1 35 2 3 b33
def c33 : Chk := ⟨n33, gn1, bn, tT, 5⟩
/-- TwoSplit.__init__ -/
def n34 : List PySem.Str := ["self", "lot", "one", "other"]
def b34 : List (PySem.Str × Ex) := [("lot", (.call 0 (.cons (.var 1) .nil))), ("one", (.call 0 (.cons (.var 2) .nil))), ("other", (.call 0 (.cons (.var 3) .nil)))]
def f34 : Fn := fnI G1 37 3 4 b34
def c34 : Chk := ⟨n34, gn1, bn, tT, 5⟩
/-- WebOf.__init__ -/
def n35 : List PySem.Str := ["self", "places", "ties"]
def b35 : List (PySem.Str × Ex) := [("places", (.call 0 (.cons (.var 1) .nil))), ("ties", (.call 0 (.cons (.var 2) .nil)))]
def f35 : Fn := fnI G1 39 2 3 b35
def c35 : Chk := ⟨n35, gn1, bn, tT, 5⟩
/-- NoWeb.__init__ -/
def n36 : List PySem.Str := ["self", "kind", "gone", "pressed_lot"]
def b36 : List (PySem.Str × Ex) := [("kind", (.call 0 (.cons (.var 1) .nil))), ("gone", (.call 0 (.cons (.var 2) .nil))), ("pressed_lot", (.call 0 (.cons (.var 3) .nil)))]
def f36 : Fn := fnI G1 40 3 4 b36
def c36 : Chk := ⟨n36, gn1, bn, tT, 5⟩
/-- _law_value -/
def n37 : List PySem.Str := ["pen", "some", "k"]
def b37 : Sm := (.seq (.asg (.v 1) (.disp (.cons (.tup (.cons (.int 1) (.cons (.int 2) .nil))) (.cons (.toc (.disp (.cons (.int 1) (.cons (.disp (.cons (.int 2) .nil)) .nil)))) (.cons (.toc (.disp .nil)) (.cons (.tup .nil) (.cons (.str "web") (.cons (.int 5) (.cons .non (.cons (.bl true) (.cons (.tup (.cons (.tup (.cons (.int 0) (.cons (.int 1) .nil))) .nil)) (.cons (.toc (.disp (.cons (.disp (.cons (.int 0) .nil)) (.cons (.disp (.cons (.int 1) .nil)) .nil)))) (.cons (.ddisp ["a"] (.cons (.int 1) .nil)) (.cons (.neg (.int 3)) (.cons (.str "") (.cons (.toc (.disp (.cons .non .nil))) .nil)))))))))))))))) (.seq (.ret (.call 5 (.cons (.var 0) (.cons (.bin .add (.var 1) (.disp (.cons (.toc (.comp [2] (.v 2) (.rng (.int 0) (.int 3)) .yes (.call 2 (.cons (.var 0) (.cons (.int 9) .nil))))) .nil))) .nil)))) .skip))
def f37 : Fn := fnS G2 1 3 b37
def c37 : Chk := ⟨n37, gn2, bn, tT, 6⟩
def G3 : List Fn := G2 ++ [f6, f7, f8, f9, f10, f11, f12, f13, f14, f15, f16, f17, f18, f19, f20, f21, f22, f23, f24, f25, f26, f27, f28, f29, f30, f31, f32, f33, f34, f35, f36, f37]
def gn3 : List PySem.Str := gn2 ++ (["", "", "", "", "", "", "", "", "", "", "", "", "", "", "", "", "", "", "", "", "", "", "", "", "", "", "", "", "", "", "", "_law_value"] : List PySem.Str)
/-- _law_made_a -/
def n38 : List PySem.Str := ["a", "b", "c", "d", "rows", "one", "two", "kind", "first"]
def b38 : Sm := (.seq (.own 4 (.disp .nil)) (.seq (.par 5 6 (.toc (.newx 7 (some 12) [] (.cons (.var 0) .nil))) (.toc (.newx 7 (some 12) [0] (.cons (.var 0) .nil)))) (.seq (.par 7 8 (.and (.isi (.var 5) [(.cls 7)] [7]) (.isi (.var 6) [(.cls 7)] [7])) (.disp (.cons (.attr (.var 5) "lot" [1, 7, 8, 9, 26, 28, 37]) .nil))) (.seq (.app 4 (.tup (.cons (.var 5) (.cons (.var 6) (.cons (.var 7) (.cons (.var 8) (.cons (.disp (.cons (.attr (.var 6) "lot" [1, 7, 8, 9, 26, 28, 37]) .nil)) (.cons (.disp (.cons (.var 0) .nil)) .nil)))))))) (.seq (.par 5 6 (.toc (.newx 8 (some 13) [] (.cons (.var 0) .nil))) (.toc (.newx 8 (some 13) [0] (.cons (.var 0) .nil)))) (.seq (.par 7 8 (.and (.isi (.var 5) [(.cls 8)] [8]) (.isi (.var 6) [(.cls 8)] [8])) (.disp (.cons (.attr (.var 5) "lot" [1, 7, 8, 9, 26, 28, 37]) .nil))) (.seq (.app 4 (.tup (.cons (.var 5) (.cons (.var 6) (.cons (.var 7) (.cons (.var 8) (.cons (.disp (.cons (.attr (.var 6) "lot" [1, 7, 8, 9, 26, 28, 37]) .nil)) (.cons (.disp (.cons (.var 0) .nil)) .nil)))))))) (.seq (.par 5 6 (.toc (.newx 9 (some 14) [] (.cons (.var 0) .nil))) (.toc (.newx 9 (some 14) [0] (.cons (.var 0) .nil)))) (.seq (.par 7 8 (.and (.isi (.var 5) [(.cls 9)] [9]) (.isi (.var 6) [(.cls 9)] [9])) (.disp (.cons (.attr (.var 5) "lot" [1, 7, 8, 9, 26, 28, 37]) .nil))) (.seq (.app 4 (.tup (.cons (.var 5) (.cons (.var 6) (.cons (.var 7) (.cons (.var 8) (.cons (.disp (.cons (.attr (.var 6) "lot" [1, 7, 8, 9, 26, 28, 37]) .nil)) (.cons (.disp (.cons (.var 0) .nil)) .nil)))))))) (.seq (.par 5 6 (.toc (.newx 20 (some 22) [] (.cons (.var 0) .nil))) (.toc (.newx 20 (some 22) [0] (.cons (.var 0) .nil)))) (.seq (.par 7 8 (.and (.isi (.var 5) [(.cls 20)] [20]) (.isi (.var 6) [(.cls 20)] [20])) (.disp (.cons (.attr (.var 5) "lots" [20, 26]) .nil))) (.seq (.app 4 (.tup (.cons (.var 5) (.cons (.var 6) (.cons (.var 7) (.cons (.var 8) (.cons (.disp (.cons (.attr (.var 6) "lots" [20, 26]) .nil)) (.cons (.disp (.cons (.var 0) .nil)) .nil)))))))) (.seq (.par 5 6 (.toc (.newx 21 (some 23) [] (.cons (.var 0) .nil))) (.toc (.newx 21 (some 23) [0] (.cons (.var 0) .nil)))) (.seq (.par 7 8 (.and (.isi (.var 5) [(.cls 21)] [21]) (.isi (.var 6) [(.cls 21)] [21])) (.disp (.cons (.attr (.var 5) "row" [21]) .nil))) (.seq (.app 4 (.tup (.cons (.var 5) (.cons (.var 6) (.cons (.var 7) (.cons (.var 8) (.cons (.disp (.cons (.attr (.var 6) "row" [21]) .nil)) (.cons (.disp (.cons (.var 0) .nil)) .nil)))))))) (.seq (.par 5 6 (.toc (.newx 10 (some 15) [] (.cons (.var 0) .nil))) (.toc (.newx 10 (some 15) [0] (.cons (.var 0) .nil)))) (.seq (.par 7 8 (.and (.isi (.var 5) [(.cls 10)] [10]) (.isi (.var 6) [(.cls 10)] [10])) (.disp (.cons (.attr (.var 5) "rows" [10, 11, 12]) .nil))) (.seq (.app 4 (.tup (.cons (.var 5) (.cons (.var 6) (.cons (.var 7) (.cons (.var 8) (.cons (.disp (.cons (.attr (.var 6) "rows" [10, 11, 12]) .nil)) (.cons (.disp (.cons (.var 0) .nil)) .nil)))))))) (.seq (.par 5 6 (.toc (.newx 23 (some 24) [] (.cons (.var 0) (.cons (.var 1) (.cons (.var 2) .nil))))) (.toc (.newx 23 (some 24) [2, 1, 0] (.cons (.var 2) (.cons (.var 1) (.cons (.var 0) .nil)))))) (.seq (.par 7 8 (.and (.isi (.var 5) [(.cls 23)] [23]) (.isi (.var 6) [(.cls 23)] [23])) (.disp (.cons (.attr (.var 5) "one" [3, 6, 23, 33, 34, 35, 37]) (.cons (.attr (.var 5) "other" [3, 6, 23, 33, 34, 35, 37]) (.cons (.attr (.var 5) "thing" [6, 23, 27]) .nil))))) (.seq (.app 4 (.tup (.cons (.var 5) (.cons (.var 6) (.cons (.var 7) (.cons (.var 8) (.cons (.disp (.cons (.attr (.var 6) "one" [3, 6, 23, 33, 34, 35, 37]) (.cons (.attr (.var 6) "other" [3, 6, 23, 33, 34, 35, 37]) (.cons (.attr (.var 6) "thing" [6, 23, 27]) .nil)))) (.cons (.disp (.cons (.var 0) (.cons (.var 1) (.cons (.var 2) .nil)))) .nil)))))))) (.seq (.par 5 6 (.toc (.newx 25 (some 25) [] (.cons (.var 0) (.cons (.var 1) .nil)))) (.toc (.newx 25 (some 25) [1, 0] (.cons (.var 1) (.cons (.var 0) .nil))))) (.seq (.par 7 8 (.and (.isi (.var 5) [(.cls 25)] [25]) (.isi (.var 6) [(.cls 25)] [25])) (.disp (.cons (.attr (.var 5) "flat" [5, 25]) (.cons (.attr (.var 5) "above" [5, 25]) .nil)))) (.seq (.app 4 (.tup (.cons (.var 5) (.cons (.var 6) (.cons (.var 7) (.cons (.var 8) (.cons (.disp (.cons (.attr (.var 6) "flat" [5, 25]) (.cons (.attr (.var 6) "above" [5, 25]) .nil))) (.cons (.disp (.cons (.var 0) (.cons (.var 1) .nil))) .nil)))))))) (.seq (.par 5 6 (.toc (.newx 26 (some 26) [] (.cons (.var 0) (.cons (.var 1) .nil)))) (.toc (.newx 26 (some 26) [1, 0] (.cons (.var 1) (.cons (.var 0) .nil))))) (.seq (.par 7 8 (.and (.isi (.var 5) [(.cls 26)] [26]) (.isi (.var 6) [(.cls 26)] [26])) (.disp (.cons (.attr (.var 5) "lots" [20, 26]) (.cons (.attr (.var 5) "lot" [1, 7, 8, 9, 26, 28, 37]) .nil)))) (.seq (.app 4 (.tup (.cons (.var 5) (.cons (.var 6) (.cons (.var 7) (.cons (.var 8) (.cons (.disp (.cons (.attr (.var 6) "lots" [20, 26]) (.cons (.attr (.var 6) "lot" [1, 7, 8, 9, 26, 28, 37]) .nil))) (.cons (.disp (.cons (.var 0) (.cons (.var 1) .nil))) .nil)))))))) (.seq (.par 5 6 (.toc (.newx 27 (some 27) [] (.cons (.var 0) .nil))) (.toc (.newx 27 (some 27) [0] (.cons (.var 0) .nil)))) (.seq (.par 7 8 (.and (.isi (.var 5) [(.cls 27)] [27]) (.isi (.var 6) [(.cls 27)] [27])) (.disp (.cons (.attr (.var 5) "thing" [6, 23, 27]) .nil))) (.seq (.app 4 (.tup (.cons (.var 5) (.cons (.var 6) (.cons (.var 7) (.cons (.var 8) (.cons (.disp (.cons (.attr (.var 6) "thing" [6, 23, 27]) .nil)) (.cons (.disp (.cons (.var 0) .nil)) .nil)))))))) (.seq (.par 5 6 (.toc (.newx 28 (some 28) [] (.cons (.var 0) (.cons (.var 1) .nil)))) (.toc (.newx 28 (some 28) [1, 0] (.cons (.var 1) (.cons (.var 0) .nil))))) (.seq (.par 7 8 (.and (.isi (.var 5) [(.cls 28)] [28]) (.isi (.var 6) [(.cls 28)] [28])) (.disp (.cons (.attr (.var 5) "bases" [28]) (.cons (.attr (.var 5) "lot" [1, 7, 8, 9, 26, 28, 37]) .nil)))) (.seq (.app 4 (.tup (.cons (.var 5) (.cons (.var 6) (.cons (.var 7) (.cons (.var 8) (.cons (.disp (.cons (.attr (.var 6) "bases" [28]) (.cons (.attr (.var 6) "lot" [1, 7, 8, 9, 26, 28, 37]) .nil))) (.cons (.disp (.cons (.var 0) (.cons (.var 1) .nil))) .nil)))))))) (.seq (.ret (.var 4)) .skip)))))))))))))))))))))))))))))))))))
def f38 : Fn := fnS G3 4 9 b38
def c38 : Chk := ⟨n38, gn3, bn, tT, 38⟩
/-- _law_made_b -/
def n39 : List PySem.Str := ["a", "b", "c", "d", "rows", "one", "two", "kind", "first"]
def b39 : Sm := (.seq (.own 4 (.disp .nil)) (.seq (.par 5 6 (.toc (.newx 29 (some 29) [] (.cons (.var 0) (.cons (.var 1) .nil)))) (.toc (.newx 29 (some 29) [1, 0] (.cons (.var 1) (.cons (.var 0) .nil))))) (.seq (.par 7 8 (.and (.isi (.var 5) [(.cls 29)] [29]) (.isi (.var 6) [(.cls 29)] [29])) (.disp (.cons (.attr (.var 5) "base" [4, 29, 31]) (.cons (.attr (.var 5) "chain" [29]) .nil)))) (.seq (.app 4 (.tup (.cons (.var 5) (.cons (.var 6) (.cons (.var 7) (.cons (.var 8) (.cons (.disp (.cons (.attr (.var 6) "base" [4, 29, 31]) (.cons (.attr (.var 6) "chain" [29]) .nil))) (.cons (.disp (.cons (.var 0) (.cons (.var 1) .nil))) .nil)))))))) (.seq (.par 5 6 (.toc (.newx 1 (some 6) [] (.cons (.var 0) (.cons (.var 1) .nil)))) (.toc (.newx 1 (some 6) [1, 0] (.cons (.var 1) (.cons (.var 0) .nil))))) (.seq (.par 7 8 (.and (.isi (.var 5) [(.cls 1)] [1]) (.isi (.var 6) [(.cls 1)] [1])) (.disp (.cons (.attr (.var 5) "lot" [1, 7, 8, 9, 26, 28, 37]) (.cons (.attr (.var 5) "things" [1]) .nil)))) (.seq (.app 4 (.tup (.cons (.var 5) (.cons (.var 6) (.cons (.var 7) (.cons (.var 8) (.cons (.disp (.cons (.attr (.var 6) "lot" [1, 7, 8, 9, 26, 28, 37]) (.cons (.attr (.var 6) "things" [1]) .nil))) (.cons (.disp (.cons (.var 0) (.cons (.var 1) .nil))) .nil)))))))) (.seq (.par 5 6 (.toc (.newx 2 (some 7) [] (.cons (.var 0) (.cons (.var 1) .nil)))) (.toc (.newx 2 (some 7) [1, 0] (.cons (.var 1) (.cons (.var 0) .nil))))) (.seq (.par 7 8 (.and (.isi (.var 5) [(.cls 2)] [2]) (.isi (.var 6) [(.cls 2)] [2])) (.disp (.cons (.attr (.var 5) "ring" [2, 4, 31]) (.cons (.attr (.var 5) "cut" [2]) .nil)))) (.seq (.app 4 (.tup (.cons (.var 5) (.cons (.var 6) (.cons (.var 7) (.cons (.var 8) (.cons (.disp (.cons (.attr (.var 6) "ring" [2, 4, 31]) (.cons (.attr (.var 6) "cut" [2]) .nil))) (.cons (.disp (.cons (.var 0) (.cons (.var 1) .nil))) .nil)))))))) (.seq (.par 5 6 (.toc (.newx 3 (some 8) [] (.cons (.var 0) (.cons (.var 1) .nil)))) (.toc (.newx 3 (some 8) [1, 0] (.cons (.var 1) (.cons (.var 0) .nil))))) (.seq (.par 7 8 (.and (.isi (.var 5) [(.cls 3)] [3]) (.isi (.var 6) [(.cls 3)] [3])) (.disp (.cons (.attr (.var 5) "one" [3, 6, 23, 33, 34, 35, 37]) (.cons (.attr (.var 5) "other" [3, 6, 23, 33, 34, 35, 37]) .nil)))) (.seq (.app 4 (.tup (.cons (.var 5) (.cons (.var 6) (.cons (.var 7) (.cons (.var 8) (.cons (.disp (.cons (.attr (.var 6) "one" [3, 6, 23, 33, 34, 35, 37]) (.cons (.attr (.var 6) "other" [3, 6, 23, 33, 34, 35, 37]) .nil))) (.cons (.disp (.cons (.var 0) (.cons (.var 1) .nil))) .nil)))))))) (.seq (.par 5 6 (.toc (.newx 4 (some 9) [] (.cons (.var 0) (.cons (.var 1) .nil)))) (.toc (.newx 4 (some 9) [1, 0] (.cons (.var 1) (.cons (.var 0) .nil))))) (.seq (.par 7 8 (.and (.isi (.var 5) [(.cls 4)] [4]) (.isi (.var 6) [(.cls 4)] [4])) (.disp (.cons (.attr (.var 5) "base" [4, 29, 31]) (.cons (.attr (.var 5) "ring" [2, 4, 31]) .nil)))) (.seq (.app 4 (.tup (.cons (.var 5) (.cons (.var 6) (.cons (.var 7) (.cons (.var 8) (.cons (.disp (.cons (.attr (.var 6) "base" [4, 29, 31]) (.cons (.attr (.var 6) "ring" [2, 4, 31]) .nil))) (.cons (.disp (.cons (.var 0) (.cons (.var 1) .nil))) .nil)))))))) (.seq (.par 5 6 (.toc (.newx 5 (some 10) [] (.cons (.var 0) (.cons (.var 1) .nil)))) (.toc (.newx 5 (some 10) [1, 0] (.cons (.var 1) (.cons (.var 0) .nil))))) (.seq (.par 7 8 (.and (.isi (.var 5) [(.cls 5)] [5]) (.isi (.var 6) [(.cls 5)] [5])) (.disp (.cons (.attr (.var 5) "flat" [5, 25]) (.cons (.attr (.var 5) "above" [5, 25]) .nil)))) (.seq (.app 4 (.tup (.cons (.var 5) (.cons (.var 6) (.cons (.var 7) (.cons (.var 8) (.cons (.disp (.cons (.attr (.var 6) "flat" [5, 25]) (.cons (.attr (.var 6) "above" [5, 25]) .nil))) (.cons (.disp (.cons (.var 0) (.cons (.var 1) .nil))) .nil)))))))) (.seq (.par 5 6 (.toc (.newx 6 (some 11) [] (.cons (.var 0) (.cons (.var 1) (.cons (.var 2) .nil))))) (.toc (.newx 6 (some 11) [2, 1, 0] (.cons (.var 2) (.cons (.var 1) (.cons (.var 0) .nil)))))) (.seq (.par 7 8 (.and (.isi (.var 5) [(.cls 6)] [6]) (.isi (.var 6) [(.cls 6)] [6])) (.disp (.cons (.attr (.var 5) "one" [3, 6, 23, 33, 34, 35, 37]) (.cons (.attr (.var 5) "other" [3, 6, 23, 33, 34, 35, 37]) (.cons (.attr (.var 5) "thing" [6, 23, 27]) .nil))))) (.seq (.app 4 (.tup (.cons (.var 5) (.cons (.var 6) (.cons (.var 7) (.cons (.var 8) (.cons (.disp (.cons (.attr (.var 6) "one" [3, 6, 23, 33, 34, 35, 37]) (.cons (.attr (.var 6) "other" [3, 6, 23, 33, 34, 35, 37]) (.cons (.attr (.var 6) "thing" [6, 23, 27]) .nil)))) (.cons (.disp (.cons (.var 0) (.cons (.var 1) (.cons (.var 2) .nil)))) .nil)))))))) (.seq (.par 5 6 (.toc (.newx 31 (some 30) [] (.cons (.var 0) (.cons (.var 1) .nil)))) (.toc (.newx 31 (some 30) [1, 0] (.cons (.var 1) (.cons (.var 0) .nil))))) (.seq (.par 7 8 (.and (.isi (.var 5) [(.cls 31)] [31]) (.isi (.var 6) [(.cls 31)] [31])) (.disp (.cons (.attr (.var 5) "base" [4, 29, 31]) (.cons (.attr (.var 5) "ring" [2, 4, 31]) .nil)))) (.seq (.app 4 (.tup (.cons (.var 5) (.cons (.var 6) (.cons (.var 7) (.cons (.var 8) (.cons (.disp (.cons (.attr (.var 6) "base" [4, 29, 31]) (.cons (.attr (.var 6) "ring" [2, 4, 31]) .nil))) (.cons (.disp (.cons (.var 0) (.cons (.var 1) .nil))) .nil)))))))) (.seq (.par 5 6 (.toc (.newx 33 (some 31) [] (.cons (.var 0) (.cons (.var 1) .nil)))) (.toc (.newx 33 (some 31) [1, 0] (.cons (.var 1) (.cons (.var 0) .nil))))) (.seq (.par 7 8 (.and (.isi (.var 5) [(.cls 33)] [33]) (.isi (.var 6) [(.cls 33)] [33])) (.disp (.cons (.attr (.var 5) "one" [3, 6, 23, 33, 34, 35, 37]) (.cons (.attr (.var 5) "other" [3, 6, 23, 33, 34, 35, 37]) .nil)))) (.seq (.app 4 (.tup (.cons (.var 5) (.cons (.var 6) (.cons (.var 7) (.cons (.var 8) (.cons (.disp (.cons (.attr (.var 6) "one" [3, 6, 23, 33, 34, 35, 37]) (.cons (.attr (.var 6) "other" [3, 6, 23, 33, 34, 35, 37]) .nil))) (.cons (.disp (.cons (.var 0) (.cons (.var 1) .nil))) .nil)))))))) (.seq (.par 5 6 (.toc (.newx 12 (some 17) [] (.cons (.var 0) .nil))) (.toc (.newx 12 (some 17) [0] (.cons (.var 0) .nil)))) (.seq (.par 7 8 (.and (.isi (.var 5) [(.cls 12)] [12]) (.isi (.var 6) [(.cls 12)] [12])) (.disp (.cons (.attr (.var 5) "rows" [10, 11, 12]) .nil))) (.seq (.app 4 (.tup (.cons (.var 5) (.cons (.var 6) (.cons (.var 7) (.cons (.var 8) (.cons (.disp (.cons (.attr (.var 6) "rows" [10, 11, 12]) .nil)) (.cons (.disp (.cons (.var 0) .nil)) .nil)))))))) (.seq (.par 5 6 (.toc (.newx 13 (some 18) [] (.cons (.var 0) (.cons (.var 1) .nil)))) (.toc (.newx 13 (some 18) [1, 0] (.cons (.var 1) (.cons (.var 0) .nil))))) (.seq (.par 7 8 (.and (.isi (.var 5) [(.cls 13)] [13]) (.isi (.var 6) [(.cls 13)] [13])) (.disp (.cons (.attr (.var 5) "kind" [13, 40]) (.cons (.attr (.var 5) "names" [13]) .nil)))) (.seq (.app 4 (.tup (.cons (.var 5) (.cons (.var 6) (.cons (.var 7) (.cons (.var 8) (.cons (.disp (.cons (.attr (.var 6) "kind" [13, 40]) (.cons (.attr (.var 6) "names" [13]) .nil))) (.cons (.disp (.cons (.var 0) (.cons (.var 1) .nil))) .nil)))))))) (.seq (.ret (.var 4)) .skip)))))))))))))))))))))))))))))))))))
def f39 : Fn := fnS G3 4 9 b39
def c39 : Chk := ⟨n39, gn3, bn, tT, 38⟩
/-- _law_made_c -/
def n40 : List PySem.Str := ["a", "b", "c", "d", "rows", "one", "two", "kind", "first"]
def b40 : Sm := (.seq (.own 4 (.disp .nil)) (.seq (.par 5 6 (.toc (.newx 15 (some 19) [] (.cons (.var 0) (.cons (.var 1) .nil)))) (.toc (.newx 15 (some 19) [1, 0] (.cons (.var 1) (.cons (.var 0) .nil))))) (.seq (.par 7 8 (.and (.isi (.var 5) [(.cls 15)] [15]) (.isi (.var 6) [(.cls 15)] [15])) (.disp (.cons (.attr (.var 5) "lines" [15, 17, 19]) (.cons (.attr (.var 5) "columns" [15, 17]) .nil)))) (.seq (.app 4 (.tup (.cons (.var 5) (.cons (.var 6) (.cons (.var 7) (.cons (.var 8) (.cons (.disp (.cons (.attr (.var 6) "lines" [15, 17, 19]) (.cons (.attr (.var 6) "columns" [15, 17]) .nil))) (.cons (.disp (.cons (.var 0) (.cons (.var 1) .nil))) .nil)))))))) (.seq (.par 5 6 (.toc (.newx 17 (some 20) [] (.cons (.var 0) (.cons (.var 1) .nil)))) (.toc (.newx 17 (some 20) [1, 0] (.cons (.var 1) (.cons (.var 0) .nil))))) (.seq (.par 7 8 (.and (.isi (.var 5) [(.cls 17)] [17]) (.isi (.var 6) [(.cls 17)] [17])) (.disp (.cons (.attr (.var 5) "lines" [15, 17, 19]) (.cons (.attr (.var 5) "columns" [15, 17]) .nil)))) (.seq (.app 4 (.tup (.cons (.var 5) (.cons (.var 6) (.cons (.var 7) (.cons (.var 8) (.cons (.disp (.cons (.attr (.var 6) "lines" [15, 17, 19]) (.cons (.attr (.var 6) "columns" [15, 17]) .nil))) (.cons (.disp (.cons (.var 0) (.cons (.var 1) .nil))) .nil)))))))) (.seq (.par 5 6 (.toc (.newx 19 (some 21) [] (.cons (.var 0) .nil))) (.toc (.newx 19 (some 21) [0] (.cons (.var 0) .nil)))) (.seq (.par 7 8 (.and (.isi (.var 5) [(.cls 19)] [19]) (.isi (.var 6) [(.cls 19)] [19])) (.disp (.cons (.attr (.var 5) "lines" [15, 17, 19]) .nil))) (.seq (.app 4 (.tup (.cons (.var 5) (.cons (.var 6) (.cons (.var 7) (.cons (.var 8) (.cons (.disp (.cons (.attr (.var 6) "lines" [15, 17, 19]) .nil)) (.cons (.disp (.cons (.var 0) .nil)) .nil)))))))) (.seq (.par 5 6 (.toc (.newx 34 (some 32) [] (.cons (.var 0) (.cons (.var 1) .nil)))) (.toc (.newx 34 (some 32) [1, 0] (.cons (.var 1) (.cons (.var 0) .nil))))) (.seq (.par 7 8 (.and (.isi (.var 5) [(.cls 34)] [34]) (.isi (.var 6) [(.cls 34)] [34])) (.disp (.cons (.attr (.var 5) "one" [3, 6, 23, 33, 34, 35, 37]) (.cons (.attr (.var 5) "other" [3, 6, 23, 33, 34, 35, 37]) .nil)))) (.seq (.app 4 (.tup (.cons (.var 5) (.cons (.var 6) (.cons (.var 7) (.cons (.var 8) (.cons (.disp (.cons (.attr (.var 6) "one" [3, 6, 23, 33, 34, 35, 37]) (.cons (.attr (.var 6) "other" [3, 6, 23, 33, 34, 35, 37]) .nil))) (.cons (.disp (.cons (.var 0) (.cons (.var 1) .nil))) .nil)))))))) (.seq (.par 5 6 (.toc (.newx 35 (some 33) [] (.cons (.var 0) (.cons (.var 1) .nil)))) (.toc (.newx 35 (some 33) [1, 0] (.cons (.var 1) (.cons (.var 0) .nil))))) (.seq (.par 7 8 (.and (.isi (.var 5) [(.cls 35)] [35]) (.isi (.var 6) [(.cls 35)] [35])) (.disp (.cons (.attr (.var 5) "one" [3, 6, 23, 33, 34, 35, 37]) (.cons (.attr (.var 5) "other" [3, 6, 23, 33, 34, 35, 37]) .nil)))) (.seq (.app 4 (.tup (.cons (.var 5) (.cons (.var 6) (.cons (.var 7) (.cons (.var 8) (.cons (.disp (.cons (.attr (.var 6) "one" [3, 6, 23, 33, 34, 35, 37]) (.cons (.attr (.var 6) "other" [3, 6, 23, 33, 34, 35, 37]) .nil))) (.cons (.disp (.cons (.var 0) (.cons (.var 1) .nil))) .nil)))))))) (.seq (.par 5 6 (.toc (.newx 11 (some 16) [] (.cons (.var 0) .nil))) (.toc (.newx 11 (some 16) [0] (.cons (.var 0) .nil)))) (.seq (.par 7 8 (.and (.isi (.var 5) [(.cls 11)] [11]) (.isi (.var 6) [(.cls 11)] [11])) (.disp (.cons (.attr (.var 5) "rows" [10, 11, 12]) .nil))) (.seq (.app 4 (.tup (.cons (.var 5) (.cons (.var 6) (.cons (.var 7) (.cons (.var 8) (.cons (.disp (.cons (.attr (.var 6) "rows" [10, 11, 12]) .nil)) (.cons (.disp (.cons (.var 0) .nil)) .nil)))))))) (.seq (.par 5 6 (.toc (.newx 37 (some 34) [] (.cons (.var 0) (.cons (.var 1) (.cons (.var 2) .nil))))) (.toc (.newx 37 (some 34) [2, 1, 0] (.cons (.var 2) (.cons (.var 1) (.cons (.var 0) .nil)))))) (.seq (.par 7 8 (.and (.isi (.var 5) [(.cls 37)] [37]) (.isi (.var 6) [(.cls 37)] [37])) (.disp (.cons (.attr (.var 5) "lot" [1, 7, 8, 9, 26, 28, 37]) (.cons (.attr (.var 5) "one" [3, 6, 23, 33, 34, 35, 37]) (.cons (.attr (.var 5) "other" [3, 6, 23, 33, 34, 35, 37]) .nil))))) (.seq (.app 4 (.tup (.cons (.var 5) (.cons (.var 6) (.cons (.var 7) (.cons (.var 8) (.cons (.disp (.cons (.attr (.var 6) "lot" [1, 7, 8, 9, 26, 28, 37]) (.cons (.attr (.var 6) "one" [3, 6, 23, 33, 34, 35, 37]) (.cons (.attr (.var 6) "other" [3, 6, 23, 33, 34, 35, 37]) .nil)))) (.cons (.disp (.cons (.var 0) (.cons (.var 1) (.cons (.var 2) .nil)))) .nil)))))))) (.seq (.par 5 6 (.toc (.newx 39 (some 35) [] (.cons (.var 0) (.cons (.var 1) .nil)))) (.toc (.newx 39 (some 35) [1, 0] (.cons (.var 1) (.cons (.var 0) .nil))))) (.seq (.par 7 8 (.and (.isi (.var 5) [(.cls 39)] [39]) (.isi (.var 6) [(.cls 39)] [39])) (.disp (.cons (.attr (.var 5) "places" [39]) (.cons (.attr (.var 5) "ties" [39]) .nil)))) (.seq (.app 4 (.tup (.cons (.var 5) (.cons (.var 6) (.cons (.var 7) (.cons (.var 8) (.cons (.disp (.cons (.attr (.var 6) "places" [39]) (.cons (.attr (.var 6) "ties" [39]) .nil))) (.cons (.disp (.cons (.var 0) (.cons (.var 1) .nil))) .nil)))))))) (.seq (.par 5 6 (.toc (.newx 40 (some 36) [] (.cons (.var 0) (.cons (.var 1) (.cons (.var 2) .nil))))) (.toc (.newx 40 (some 36) [2, 1, 0] (.cons (.var 2) (.cons (.var 1) (.cons (.var 0) .nil)))))) (.seq (.par 7 8 (.and (.isi (.var 5) [(.cls 40)] [40]) (.isi (.var 6) [(.cls 40)] [40])) (.disp (.cons (.attr (.var 5) "kind" [13, 40]) (.cons (.attr (.var 5) "gone" [40]) (.cons (.attr (.var 5) "pressed_lot" [40]) .nil))))) (.seq (.app 4 (.tup (.cons (.var 5) (.cons (.var 6) (.cons (.var 7) (.cons (.var 8) (.cons (.disp (.cons (.attr (.var 6) "kind" [13, 40]) (.cons (.attr (.var 6) "gone" [40]) (.cons (.attr (.var 6) "pressed_lot" [40]) .nil)))) (.cons (.disp (.cons (.var 0) (.cons (.var 1) (.cons (.var 2) .nil)))) .nil)))))))) (.seq (.ret (.var 4)) .skip)))))))))))))))))))))))))))))
def f40 : Fn := fnS G3 4 9 b40
def c40 : Chk := ⟨n40, gn3, bn, tT, 38⟩
def G4 : List Fn := G3 ++ [f38, f39, f40]
def gn4 : List PySem.Str := gn3 ++ (["_law_made_a", "_law_made_b", "_law_made_c"] : List PySem.Str)
/-- law -/
def n41 : List PySem.Str := ["script", "pen", "values", "a", "b", "c", "d", "rows", "more", "one", "two", "kind", "first", "second", "handed", "due", "k", "other", "kept", "before", "value"]
def b41 : Sm := (.seq (.asg (.v 1) (.call 1 (.cons (.var 0) .nil))) (.seq (.own 2 (.comp [16] (.v 16) (.rng (.int 0) (.int 4)) .yes (.call 37 (.cons (.var 1) .nil)))) (.seq (.asg (.lst (.cons (.v 3) (.cons (.v 4) (.cons (.v 5) (.cons (.v 6) .nil))))) (.comp [20] (.v 20) (.var 2) .yes (.ite (.isi (.var 20) [.list] []) (.bi .list (.cons (.var 20) .nil)) (.var 20)))) (.seq (.asg (.v 7) (.call 3 .nil)) (.seq (.for_ (.v 8) (.disp (.cons (.call 38 (.cons (.var 3) (.cons (.var 4) (.cons (.var 5) (.cons (.var 6) .nil))))) (.cons (.call 39 (.cons (.var 3) (.cons (.var 4) (.cons (.var 5) (.cons (.var 6) .nil))))) (.cons (.call 40 (.cons (.var 3) (.cons (.var 4) (.cons (.var 5) (.cons (.var 6) .nil))))) .nil)))) (.seq (.asg (.v 7) (.bin .add (.var 7) (.var 8))) .skip)) (.seq (.for_ (.tup (.cons (.v 9) (.cons (.v 10) (.cons (.v 11) (.cons (.v 12) (.cons (.v 13) (.cons (.v 14) .nil))))))) (.var 7) (.seq (.asg (.v 15) (.bi .repr (.cons (.comp [20] (.v 20) (.var 14) .yes (.call 4 (.cons (.var 20) .nil))) .nil))) (.seq (.ite (.or (.cmp .isnot (.var 11) (.bl true)) (.or (.cmp .ne (.bi .repr (.cons (.var 12) .nil)) (.var 15)) (.or (.cmp .ne (.bi .repr (.cons (.var 13) .nil)) (.var 15)) (.or (.not (.same false (.var 9) (.var 9) allc)) (.same false (.var 9) (.var 10) allc))))) (.seq (.ret (.bl false)) .skip) .skip) .skip))) (.seq (.for_ (.v 16) (.rng (.int 0) (.bi .len (.cons (.var 7) .nil))) (.seq (.asg (.v 17) (.idx (.idx (.var 7) (.bin .mod (.bi .int (.cons (.bin .add (.bin .add (.var 16) (.int 1)) (.call 2 (.cons (.var 1) (.cons (.bin .sub (.bi .len (.cons (.var 7) .nil)) (.int 1)) .nil)))) .nil)) (.bi .len (.cons (.var 7) .nil)))) (.int 0))) (.seq (.ite (.or (.same false (.idx (.idx (.var 7) (.var 16)) (.int 0)) (.var 17) allc) (.or (.same false (.var 17) (.idx (.idx (.var 7) (.var 16)) (.int 0)) allc) (.not (.same true (.idx (.idx (.var 7) (.var 16)) (.int 0)) (.var 17) allc)))) (.seq (.ret (.bl false)) .skip) .skip) .skip))) (.seq (.asg (.v 18) (.toc (.newx 10 (some 15) [] (.cons (.idx (.var 2) (.int 0)) .nil)))) (.seq (.asg (.v 19) (.bi .repr (.cons (.attr (.var 18) "rows" [10, 11, 12]) .nil))) (.seq (.ite (.isi (.idx (.var 2) (.int 0)) [.list] []) (.seq (.appc (.idx (.var 2) (.int 0)) (.int 7)) .skip) .skip) (.seq (.ret (.and (.cmp .eq (.bi .repr (.cons (.attr (.var 18) "rows" [10, 11, 12]) .nil)) (.var 19)) (.cmp .eq (.bi .len (.cons (.var 7) .nil)) (.int 41)))) .skip)))))))))))
def f41 : Fn := fnS G4 1 21 b41
def c41 : Chk := ⟨n41, gn4, bn, tT, 41⟩
def G5 : List Fn := G4 ++ [f41]
def gn5 : List PySem.Str := gn4 ++ (["law"] : List PySem.Str)
theorem s0 : FnScope n0 ["value"] d0.scope := ⟨by kernel_rfl, by kernel_rfl, by kernel_rfl, by decide +kernel, by kernel_rfl, by decide +kernel, by decide +kernel⟩
theorem k0 : okS c0 d0.scope b0 d0.body = true := by decide +kernel
theorem s1 : FnScope n1 ["script"] d32.scope := ⟨by kernel_rfl, by kernel_rfl, by kernel_rfl, by decide +kernel, by kernel_rfl, by decide +kernel, by decide +kernel⟩
theorem k1 : okS c1 d32.scope b1 d32.body = true := by decide +kernel
theorem s2 : FnScope n2 ["pen", "many"] d33.scope := ⟨by kernel_rfl, by kernel_rfl, by kernel_rfl, by decide +kernel, by kernel_rfl, by decide +kernel, by decide +kernel⟩
theorem k2 : okS c2 d33.scope b2 d33.body = true := by decide +kernel
theorem s3 : FnScope n3 [] d38.scope := ⟨by kernel_rfl, by kernel_rfl, by kernel_rfl, by decide +kernel, by kernel_rfl, by decide +kernel, by decide +kernel⟩
theorem k3 : okS c3 d38.scope b3 d38.body = true := by decide +kernel
theorem s4 : FnScope n4 ["value"] d40.scope := ⟨by kernel_rfl, by kernel_rfl, by kernel_rfl, by decide +kernel, by kernel_rfl, by decide +kernel, by decide +kernel⟩
theorem k4 : okS c4 d40.scope b4 d40.body = true := by decide +kernel
theorem s5 : FnScope n5 ["pen", "some"] d34.scope := ⟨by kernel_rfl, by kernel_rfl, by kernel_rfl, by decide +kernel, by kernel_rfl, by decide +kernel, by decide +kernel⟩
theorem k5 : okS c5 d34.scope b5 d34.body = true := by decide +kernel
theorem s6 : FnScope n6 ["self", "lot", "things"] d1.scope := ⟨by kernel_rfl, by kernel_rfl, by kernel_rfl, by decide +kernel, by kernel_rfl, by decide +kernel, by decide +kernel⟩
theorem k6 : okI c6 d1.scope 1 b6 d1.body = true := by decide +kernel
theorem s7 : FnScope n7 ["self", "ring", "cut"] d2.scope := ⟨by kernel_rfl, by kernel_rfl, by kernel_rfl, by decide +kernel, by kernel_rfl, by decide +kernel, by decide +kernel⟩
theorem k7 : okI c7 d2.scope 2 b7 d2.body = true := by decide +kernel
theorem s8 : FnScope n8 ["self", "one", "other"] d3.scope := ⟨by kernel_rfl, by kernel_rfl, by kernel_rfl, by decide +kernel, by kernel_rfl, by decide +kernel, by decide +kernel⟩
theorem k8 : okI c8 d3.scope 3 b8 d3.body = true := by decide +kernel
theorem s9 : FnScope n9 ["self", "base", "ring"] d4.scope := ⟨by kernel_rfl, by kernel_rfl, by kernel_rfl, by decide +kernel, by kernel_rfl, by decide +kernel, by decide +kernel⟩
theorem k9 : okI c9 d4.scope 4 b9 d4.body = true := by decide +kernel
theorem s10 : FnScope n10 ["self", "flat", "above"] d5.scope := ⟨by kernel_rfl, by kernel_rfl, by kernel_rfl, by decide +kernel, by kernel_rfl, by decide +kernel, by decide +kernel⟩
theorem k10 : okI c10 d5.scope 5 b10 d5.body = true := by decide +kernel
theorem s11 : FnScope n11 ["self", "one", "other", "thing"] d6.scope := ⟨by kernel_rfl, by kernel_rfl, by kernel_rfl, by decide +kernel, by kernel_rfl, by decide +kernel, by decide +kernel⟩
theorem k11 : okI c11 d6.scope 6 b11 d6.body = true := by decide +kernel
theorem s12 : FnScope n12 ["self", "lot"] d7.scope := ⟨by kernel_rfl, by kernel_rfl, by kernel_rfl, by decide +kernel, by kernel_rfl, by decide +kernel, by decide +kernel⟩
theorem k12 : okI c12 d7.scope 7 b12 d7.body = true := by decide +kernel
theorem s13 : FnScope n13 ["self", "lot"] d8.scope := ⟨by kernel_rfl, by kernel_rfl, by kernel_rfl, by decide +kernel, by kernel_rfl, by decide +kernel, by decide +kernel⟩
theorem k13 : okI c13 d8.scope 8 b13 d8.body = true := by decide +kernel
theorem s14 : FnScope n14 ["self", "lot"] d9.scope := ⟨by kernel_rfl, by kernel_rfl, by kernel_rfl, by decide +kernel, by kernel_rfl, by decide +kernel, by decide +kernel⟩
theorem k14 : okI c14 d9.scope 9 b14 d9.body = true := by decide +kernel
theorem s15 : FnScope n15 ["self", "rows"] d10.scope := ⟨by kernel_rfl, by kernel_rfl, by kernel_rfl, by decide +kernel, by kernel_rfl, by decide +kernel, by decide +kernel⟩
theorem k15 : okI c15 d10.scope 10 b15 d10.body = true := by decide +kernel
theorem s16 : FnScope n16 ["self", "rows"] d11.scope := ⟨by kernel_rfl, by kernel_rfl, by kernel_rfl, by decide +kernel, by kernel_rfl, by decide +kernel, by decide +kernel⟩
theorem k16 : okI c16 d11.scope 11 b16 d11.body = true := by decide +kernel
theorem s17 : FnScope n17 ["self", "rows"] d12.scope := ⟨by kernel_rfl, by kernel_rfl, by kernel_rfl, by decide +kernel, by kernel_rfl, by decide +kernel, by decide +kernel⟩
theorem k17 : okI c17 d12.scope 12 b17 d12.body = true := by decide +kernel
theorem s18 : FnScope n18 ["self", "kind", "names"] d13.scope := ⟨by kernel_rfl, by kernel_rfl, by kernel_rfl, by decide +kernel, by kernel_rfl, by decide +kernel, by decide +kernel⟩
theorem k18 : okI c18 d13.scope 13 b18 d13.body = true := by decide +kernel
theorem s19 : FnScope n19 ["self", "lines", "columns"] d14.scope := ⟨by kernel_rfl, by kernel_rfl, by kernel_rfl, by decide +kernel, by kernel_rfl, by decide +kernel, by decide +kernel⟩
theorem k19 : okI c19 d14.scope 15 b19 d14.body = true := by decide +kernel
theorem s20 : FnScope n20 ["self", "lines", "columns"] d15.scope := ⟨by kernel_rfl, by kernel_rfl, by kernel_rfl, by decide +kernel, by kernel_rfl, by decide +kernel, by decide +kernel⟩
theorem k20 : okI c20 d15.scope 17 b20 d15.body = true := by decide +kernel
theorem s21 : FnScope n21 ["self", "lines"] d16.scope := ⟨by kernel_rfl, by kernel_rfl, by kernel_rfl, by decide +kernel, by kernel_rfl, by decide +kernel, by decide +kernel⟩
theorem k21 : okI c21 d16.scope 19 b21 d16.body = true := by decide +kernel
theorem s22 : FnScope n22 ["self", "lots"] d17.scope := ⟨by kernel_rfl, by kernel_rfl, by kernel_rfl, by decide +kernel, by kernel_rfl, by decide +kernel, by decide +kernel⟩
theorem k22 : okI c22 d17.scope 20 b22 d17.body = true := by decide +kernel
theorem s23 : FnScope n23 ["self", "row"] d18.scope := ⟨by kernel_rfl, by kernel_rfl, by kernel_rfl, by decide +kernel, by kernel_rfl, by decide +kernel, by decide +kernel⟩
theorem k23 : okI c23 d18.scope 21 b23 d18.body = true := by decide +kernel
theorem s24 : FnScope n24 ["self", "one", "other", "thing"] d19.scope := ⟨by kernel_rfl, by kernel_rfl, by kernel_rfl, by decide +kernel, by kernel_rfl, by decide +kernel, by decide +kernel⟩
theorem k24 : okI c24 d19.scope 23 b24 d19.body = true := by decide +kernel
theorem s25 : FnScope n25 ["self", "flat", "above"] d20.scope := ⟨by kernel_rfl, by kernel_rfl, by kernel_rfl, by decide +kernel, by kernel_rfl, by decide +kernel, by decide +kernel⟩
theorem k25 : okI c25 d20.scope 25 b25 d20.body = true := by decide +kernel
theorem s26 : FnScope n26 ["self", "lots", "lot"] d21.scope := ⟨by kernel_rfl, by kernel_rfl, by kernel_rfl, by decide +kernel, by kernel_rfl, by decide +kernel, by decide +kernel⟩
theorem k26 : okI c26 d21.scope 26 b26 d21.body = true := by decide +kernel
theorem s27 : FnScope n27 ["self", "thing"] d22.scope := ⟨by kernel_rfl, by kernel_rfl, by kernel_rfl, by decide +kernel, by kernel_rfl, by decide +kernel, by decide +kernel⟩
theorem k27 : okI c27 d22.scope 27 b27 d22.body = true := by decide +kernel
theorem s28 : FnScope n28 ["self", "bases", "lot"] d23.scope := ⟨by kernel_rfl, by kernel_rfl, by kernel_rfl, by decide +kernel, by kernel_rfl, by decide +kernel, by decide +kernel⟩
theorem k28 : okI c28 d23.scope 28 b28 d23.body = true := by decide +kernel
theorem s29 : FnScope n29 ["self", "base", "chain"] d24.scope := ⟨by kernel_rfl, by kernel_rfl, by kernel_rfl, by decide +kernel, by kernel_rfl, by decide +kernel, by decide +kernel⟩
theorem k29 : okI c29 d24.scope 29 b29 d24.body = true := by decide +kernel
theorem s30 : FnScope n30 ["self", "base", "ring"] d25.scope := ⟨by kernel_rfl, by kernel_rfl, by kernel_rfl, by decide +kernel, by kernel_rfl, by decide +kernel, by decide +kernel⟩
theorem k30 : okI c30 d25.scope 31 b30 d25.body = true := by decide +kernel
theorem s31 : FnScope n31 ["self", "one", "other"] d26.scope := ⟨by kernel_rfl, by kernel_rfl, by kernel_rfl, by decide +kernel, by kernel_rfl, by decide +kernel, by decide +kernel⟩
theorem k31 : okI c31 d26.scope 33 b31 d26.body = true := by decide +kernel
theorem s32 : FnScope n32 ["self", "one", "other"] d27.scope := ⟨by kernel_rfl, by kernel_rfl, by kernel_rfl, by decide +kernel, by kernel_rfl, by decide +kernel, by decide +kernel⟩
theorem k32 : okI c32 d27.scope 34 b32 d27.body = true := by decide +kernel
theorem s33 : FnScope n33 ["self", "one", "other"] d28.scope := ⟨by kernel_rfl, by kernel_rfl, by kernel_rfl, by decide +kernel, by kernel_rfl, by decide +kernel, by decide +kernel⟩
theorem k33 : okI c33 d28.scope 35 b33 d28.body = true := by decide +kernel
theorem s34 : FnScope n34 ["self", "lot", "one", "other"] d29.scope := ⟨by kernel_rfl, by kernel_rfl, by kernel_rfl, by decide +kernel, by kernel_rfl, by decide +kernel, by decide +kernel⟩
theorem k34 : okI c34 d29.scope 37 b34 d29.body = true := by decide +kernel
theorem s35 : FnScope n35 ["self", "places", "ties"] d30.scope := ⟨by kernel_rfl, by kernel_rfl, by kernel_rfl, by decide +kernel, by kernel_rfl, by decide +kernel, by decide +kernel⟩
theorem k35 : okI c35 d30.scope 39 b35 d30.body = true := by decide +kernel
theorem s36 : FnScope n36 ["self", "kind", "gone", "pressed_lot"] d31.scope := ⟨by kernel_rfl, by kernel_rfl, by kernel_rfl, by decide +kernel, by kernel_rfl, by decide +kernel, by decide +kernel⟩
theorem k36 : okI c36 d31.scope 40 b36 d31.body = true := by decide +kernel
theorem s37 : FnScope n37 ["pen"] d39.scope := ⟨by kernel_rfl, by kernel_rfl, by kernel_rfl, by decide +kernel, by kernel_rfl, by decide +kernel, by decide +kernel⟩
theorem k37 : okS c37 d39.scope b37 d39.body = true := by decide +kernel
theorem s38 : FnScope n38 ["a", "b", "c", "d"] d35.scope := ⟨by kernel_rfl, by kernel_rfl, by kernel_rfl, by decide +kernel, by kernel_rfl, by decide +kernel, by decide +kernel⟩
theorem k38 : okS c38 d35.scope b38 d35.body = true := by decide +kernel
theorem s39 : FnScope n39 ["a", "b", "c", "d"] d36.scope := ⟨by kernel_rfl, by kernel_rfl, by kernel_rfl, by decide +kernel, by kernel_rfl, by decide +kernel, by decide +kernel⟩
theorem k39 : okS c39 d36.scope b39 d36.body = true := by decide +kernel
theorem s40 : FnScope n40 ["a", "b", "c", "d"] d37.scope := ⟨by kernel_rfl, by kernel_rfl, by kernel_rfl, by decide +kernel, by kernel_rfl, by decide +kernel, by decide +kernel⟩
theorem k40 : okS c40 d37.scope b40 d37.body = true := by decide +kernel
theorem s41 : FnScope n41 ["script"] d41.scope := ⟨by kernel_rfl, by kernel_rfl, by kernel_rfl, by decide +kernel, by kernel_rfl, by decide +kernel, by decide +kernel⟩
theorem k41 : okS c41 d41.scope b41 d41.body = true := by decide +kernel
end Lw

set_option Elab.async false
set_option linter.all false
set_option maxRecDepth 100000
set_option maxHeartbeats 0
namespace Lw
open PySem Ev
/-! ### copied, the makers -/
def cpD : D → D
  | .lst xs => .tup xs
  | d => d
def Gd : D → Bool
  | .non => true | .bl _ => true | .int _ => true | .str _ => true | .tup _ => true | .lst _ => true | .dct _ _ => true
  | _ => false
theorem cp_ok {x : D} (h : Gd x = true) (S : Store) : f0 [x] S = .ok (cpD x) S := by
  cases x <;> first | (cases h; done) | kernel_rfl
theorem cp4_ok {x : D} (h : Gd x = true) (S : Store) : f4 [x] S = .ok (cpD x) S := cp_ok h S
theorem cp_cell {n : Nat} {S : Store} {xs : List D} (h : S[n]? = some (.lst xs)) : f0 [.ref n] S = .ok (.tup xs) S := by
  have t : toD (ev G0 (.isi (.var 0) [.list] []) ⟨[some (.v (.ref n))], S⟩) = .ok (.bl true) ⟨[some (.v (.ref n))], S⟩ := by
    refine dV (bIsi (d1 := .ref n) (e1 := ⟨[some (.v (.ref n))], S⟩) (by kernel_rfl) ?_)
    show (tyOf (.ref n) S).bind _ = _
    have : tyOf (.ref n) S = some .list := by
      show (match S[n]? with
        | some (.ins c _ _) => some (Ty.cls c)
        | some (.lst _) => some .list
        | some (.dct _ _) => some .dict
        | none => none) = _
      rw [h]
    rw [this]; rfl
  have u : ev G0 (.bi .tuple (.cons (.var 0) .nil)) ⟨[some (.v (.ref n))], S⟩ = .ok (.v (.tup xs)) ⟨[some (.v (.ref n))], S⟩ := by
    refine bBi (ds := [.ref n]) (e1 := ⟨[some (.v (.ref n))], S⟩) (by kernel_rfl) ?_
    show (cellL (.ref n) S).map _ = _
    have : cellL (.ref n) S = some xs := by
      show (match S[n]? with
        | some (Cell.lst xs) => some xs
        | _ => none) = _
      rw [h]
    rw [this]; rfl
  show finS (evS G0 b0 ⟨[some (.v (.ref n))], S⟩) = _
  rw [show evS G0 b0 ⟨[some (.v (.ref n))], S⟩ = .ok (.rt (.tup xs)) ⟨[some (.v (.ref n))], S⟩ from sSeqR (sRet (dV ((bIteT t).trans u)))]
  rfl
section
variable {G : List Fn} {c : Nat} {f g h : PySem.Str} {x y z : D} {S : Store}
theorem store_of {e : Ev.Env} {ns : List PySem.Str} {vs : List D} {a : Ex} {d : D} {r : List (PySem.Str × Ex)} (he : toD (ev G a e) = .ok d e) (h0 : e.get 0 = some (.oo c ns vs)) (hf : f ∉ ns) (hl : ns.length < 1000) :
    evI G c ((f, a) :: r) e = evI G c r (e.set 0 (some (.oo c (ns ++ [f]) (vs ++ [d])))) := by
  show (toD (ev G a e)).bind _ = _
  rw [he]
  show (match e.get 0 with
    | some (.oo c' ns vs) => if c' = c ∧ f ∉ ns ∧ ns.length < 1000 then evI G c r (e.set 0 (some (.oo c (ns ++ [f]) (vs ++ [d])))) else Res.bad
    | _ => .bad) = _
  rw [h0]
  exact if_pos ⟨rfl, hf, hl⟩
theorem cp_at (h0 : G[0]? = some f0) {e : Ev.Env} {i : Nat} (hi : e.get i = some (.v x)) (hx : Gd x = true) : toD (ev G (.call 0 (.cons (.var i) .nil)) e) = .ok (cpD x) e :=
  dV (bCall (bCons (dV (bVar hi)) rfl) h0 (cp_ok hx e.s))
theorem mk1 (h0 : G[0]? = some f0) (hx : Gd x = true) : fnI G c 1 2 [(f, .call 0 (.cons (.var 1) .nil))] [x] S = .ok (.obj c [f] [cpD x]) S := by
  show finI c (evI G c _ ⟨[some (.oo c [] []), some (.v x)], S⟩) = _
  rw [store_of (cp_at h0 rfl hx) rfl (by simp) (by decide)]
  show (if c = c then Res.ok (D.obj c [f] [cpD x]) S else .bad) = _
  rw [if_pos rfl]
theorem mk2 (h0 : G[0]? = some f0) (hx : Gd x = true) (hy : Gd y = true) (hn : g ∉ [f]) : fnI G c 2 3 [(f, .call 0 (.cons (.var 1) .nil)), (g, .call 0 (.cons (.var 2) .nil))] [x, y] S = .ok (.obj c [f, g] [cpD x, cpD y]) S := by
  show finI c (evI G c _ ⟨[some (.oo c [] []), some (.v x), some (.v y)], S⟩) = _
  rw [store_of (cp_at h0 rfl hx) rfl (by simp) (by decide), store_of (cp_at h0 rfl hy) rfl hn (by simp)]
  show (if c = c then Res.ok (D.obj c [f, g] [cpD x, cpD y]) S else .bad) = _
  rw [if_pos rfl]
theorem mk3 (h0 : G[0]? = some f0) (hx : Gd x = true) (hy : Gd y = true) (hz : Gd z = true) (hn : g ∉ [f]) (hm : h ∉ [f, g]) : fnI G c 3 4 [(f, .call 0 (.cons (.var 1) .nil)), (g, .call 0 (.cons (.var 2) .nil)), (h, .call 0 (.cons (.var 3) .nil))] [x, y, z] S = .ok (.obj c [f, g, h] [cpD x, cpD y, cpD z]) S := by
  show finI c (evI G c _ ⟨[some (.oo c [] []), some (.v x), some (.v y), some (.v z)], S⟩) = _
  rw [store_of (cp_at h0 rfl hx) rfl (by simp) (by decide), store_of (cp_at h0 rfl hy) rfl hn (by simp), store_of (cp_at h0 rfl hz) rfl hm (by simp)]
  show (if c = c then Res.ok (D.obj c [f, g, h] [cpD x, cpD y, cpD z]) S else .bad) = _
  rw [if_pos rfl]
end
/-! ### a row -/
section
variable {G : List Fn} {c g : Nat} {fs : List PySem.Str}
theorem bNew {A : Ex} {e : Ev.Env} {pm : List Nat} {ds us vs : List D} {F : Fn} (h1 : ev G A e = .ok (.v (.tup ds)) e) (hp : pick pm ds = some us) (hg : G[g]? = some F) (hF : ∀ S, F us S = .ok (.obj c fs vs) S) :
    toD (ev G (.toc (.newx c (some g) pm A)) e) = .ok (.ref e.s.length) ⟨e.r, e.s ++ [.ins c fs vs]⟩ := by
  have k : ev G (.newx c (some g) pm A) e = .ok (.oo c fs vs) e := by
    show (toA (ev G A e)).bind _ = _
    rw [aV h1]
    show (Res.opt (pick pm ds) e).bind _ = _
    rw [hp]
    show (match G[g]? with
      | some f => (f us e.s).bind fun d s => (match d with
        | .obj c' ns vs => if c' = c then Res.ok (SV.oo c ns vs) (⟨e.r, s⟩ : Ev.Env) else .bad
        | _ => .bad)
      | none => .bad) = _
    rw [hg]
    show (F us e.s).bind _ = _
    rw [hF]
    exact if_pos rfl
  refine dV ?_
  show toCell (ev G (.newx c (some g) pm A) e) = _
  rw [k]; rfl
theorem bNew0 {e : Ev.Env} : toD (ev G (.toc (.newx c none [] .nil)) e) = .ok (.ref e.s.length) ⟨e.r, e.s ++ [.ins c [] []]⟩ := rfl
end
def grp (c : Nat) (g : Option Nat) (pm : List Nat) (A B A5 A6 : Ex) (b : Sm) : Sm := (.seq (.par 5 6 (.toc (.newx c g [] A)) (.toc (.newx c g pm B))) (.seq (.par 7 8 (.and (.isi (.var 5) [.cls c] [c]) (.isi (.var 6) [.cls c] [c])) (.disp A5)) (.seq (.app 4 (.tup (.cons (.var 5) (.cons (.var 6) (.cons (.var 7) (.cons (.var 8) (.cons (.disp A6) (.cons (.disp A) .nil)))))))) b)))
def rowD (n : Nat) (vs us : List D) : D := .tup [.ref n, .ref (n + 1), .bl true, .lst vs, .lst vs, .lst us]
section
variable {G : List Fn} {c g : Nat} {fs : List PySem.Str}
theorem isin_cls {S : Store} {n : Nat} {vs : List D} (h : S[n]? = some (.ins c fs vs)) : isinD (.ref n) S [.cls c] [c] = some true := by
  have : tyOf (.ref n) S = some (.cls c) := by
    show (match S[n]? with
        | some (.ins c _ _) => some (Ty.cls c)
        | some (.lst _) => some .list
        | some (.dct _ _) => some .dict
        | none => none) = _
    rw [h]
  unfold isinD
  rw [this]
  show (if okTy [c] (.cls c) = true then some ([Ty.cls c].any (subTy (.cls c))) else none) = _
  rw [if_pos (by simp [okTy])]
  simp [subTy]
/-- three statements of a maker of rows -/
theorem grp_ok {A B A5 A6 : Ex} {pm : List Nat} {ds us vs : List D} {F : Fn} {b : Sm} {a0 a1 a2 a3 : Option SV} {x5 x6 x7 x8 : Option SV} {rows : List D} {S : Store}
    (hg : G[g]? = some F) (hF : ∀ S, F us S = .ok (.obj c fs vs) S) (hp : pick pm ds = some us) (hu : us.length ≤ lim) (hv : vs.length ≤ lim) (hr : rows.length < lim)
    (hA : ∀ (x4 x5 x6 x7 x8 : Option SV) (S : Store), ev G A ⟨[a0, a1, a2, a3, x4, x5, x6, x7, x8], S⟩ = .ok (.v (.tup us)) ⟨[a0, a1, a2, a3, x4, x5, x6, x7, x8], S⟩)
    (hB : ∀ (x4 x5 x6 x7 x8 : Option SV) (S : Store), ev G B ⟨[a0, a1, a2, a3, x4, x5, x6, x7, x8], S⟩ = .ok (.v (.tup ds)) ⟨[a0, a1, a2, a3, x4, x5, x6, x7, x8], S⟩)
    (h5 : ∀ (e : Ev.Env) (n : Nat), e.get 5 = some (.v (.ref n)) → e.s[n]? = some (.ins c fs vs) → ev G A5 e = .ok (.v (.tup vs)) e)
    (h6 : ∀ (e : Ev.Env) (n : Nat), e.get 6 = some (.v (.ref n)) → e.s[n]? = some (.ins c fs vs) → ev G A6 e = .ok (.v (.tup vs)) e) :
    evS G (grp c (some g) pm A B A5 A6 b) ⟨[a0, a1, a2, a3, some (.ol rows), x5, x6, x7, x8], S⟩ =
      evS G b ⟨[a0, a1, a2, a3, some (.ol (rows ++ [rowD S.length vs us])), some (.v (.ref S.length)), some (.v (.ref (S.length + 1))), some (.v (.bl true)), some (.v (.lst vs))], S ++ [.ins c fs vs] ++ [.ins c fs vs]⟩ := by
  let S2 := S ++ [Cell.ins c fs vs] ++ [Cell.ins c fs vs]
  let e1 : Ev.Env := ⟨[a0, a1, a2, a3, some (.ol rows), some (.v (.ref S.length)), some (.v (.ref (S.length + 1))), x7, x8], S2⟩
  let e2 : Ev.Env := ⟨[a0, a1, a2, a3, some (.ol rows), some (.v (.ref S.length)), some (.v (.ref (S.length + 1))), some (.v (.bl true)), some (.v (.lst vs))], S2⟩
  have n1 : S2[S.length]? = some (.ins c fs vs) := by
    show (S ++ [Cell.ins c fs vs] ++ [Cell.ins c fs vs])[S.length]? = _
    rw [List.append_assoc, List.getElem?_append_right (Nat.le_refl _), Nat.sub_self]; rfl
  have n2 : S2[S.length + 1]? = some (.ins c fs vs) := by
    show (S ++ [Cell.ins c fs vs] ++ [Cell.ins c fs vs])[S.length + 1]? = _
    rw [List.append_assoc, List.getElem?_append_right (by omega), show S.length + 1 - S.length = 1 from by omega]; rfl
  have s1 : evS G (.par 5 6 (.toc (.newx c (some g) [] A)) (.toc (.newx c (some g) pm B))) ⟨[a0, a1, a2, a3, some (.ol rows), x5, x6, x7, x8], S⟩ = .ok .nx e1 := by
    refine (sPar (d1 := .ref S.length) (d2 := .ref (S.length + 1)) (e1 := ⟨[a0, a1, a2, a3, some (.ol rows), x5, x6, x7, x8], S ++ [.ins c fs vs]⟩) (e2 := ⟨[a0, a1, a2, a3, some (.ol rows), x5, x6, x7, x8], S2⟩) (bNew (hA _ _ _ _ _ _) rfl hg hF) ((bNew (hB _ _ _ _ _ _) hp hg hF).trans ?_) ⟨by show 5 < 9; decide, by show 6 < 9; decide⟩).trans rfl
    show Res.ok (D.ref (S ++ [Cell.ins c fs vs]).length) _ = _
    rw [List.length_append]; rfl
  have s2 : evS G (.par 7 8 (.and (.isi (.var 5) [.cls c] [c]) (.isi (.var 6) [.cls c] [c])) (.disp A5)) e1 = .ok .nx e2 := by
    refine (sPar (d1 := .bl true) (d2 := .lst vs) (e1 := e1) (e2 := e1) ?_ (dOf (bDisp (h5 e1 _ rfl n1) hv) rfl) ⟨by show 7 < 9; decide, by show 8 < 9; decide⟩).trans rfl
    rw [show toD (ev G (.and _ _) e1) = _ from congrArg toD (bAndT (dV (bIsi (dV (bVar (e := e1) (d := .ref S.length) rfl)) (isin_cls n1))))]
    exact dV (bIsi (dV (bVar (e := e1) (d := .ref (S.length + 1)) rfl)) (isin_cls n2))
  have s3 : evS G (.app 4 (.tup (.cons (.var 5) (.cons (.var 6) (.cons (.var 7) (.cons (.var 8) (.cons (.disp A6) (.cons (.disp A) .nil)))))))) e2 = .ok .nx (e2.set 4 (some (.ol (rows ++ [rowD S.length vs us])))) := by
    refine sApp (xs := rows) rfl (dV (bTup (ds := [.ref S.length, .ref (S.length + 1), .bl true, .lst vs, .lst vs, .lst us]) (e1 := e2) ?_ (by simp [lim]))) rfl hr
    exact bCons (dV (bVar (e := e2) rfl)) (bCons (dV (bVar (e := e2) rfl)) (bCons (dV (bVar (e := e2) rfl)) (bCons (dV (bVar (e := e2) rfl)) (bCons (dOf (bDisp (h6 e2 _ rfl n2) hv) rfl) (bCons (dOf (bDisp (hA _ _ _ _ _ _) hu) rfl) rfl)))))
  exact (sSeq s1).trans ((sSeq s2).trans ((sSeq s3).trans rfl))
end
section
variable {G : List Fn} {c g : Nat} {f f' f'' : PySem.Str} {cs cs' cs'' : List Nat}
theorem at_ok {e : Ev.Env} {i n : Nat} {fs : List PySem.Str} {vs : List D} {v : D} (h : e.get i = some (.v (.ref n))) (hs : e.s[n]? = some (.ins c fs vs)) (hc : c ∈ cs) (hl : lookF f fs vs = some v) : toD (ev G (.attr (.var i) f cs) e) = .ok v e := by
  refine dV (bAttr (dV (bVar h)) ?_)
  show (match e.s[n]? with
    | some (.ins c ns vs) => if c ∈ cs then lookF f ns vs else none
    | _ => none) = _
  rw [hs]
  show (if c ∈ cs then lookF f fs vs else none) = _
  rw [if_pos hc, hl]
variable {F : Fn} {b : Sm} {x y z : D} {a1 a2 a3 x5 x6 x7 x8 : Option SV} {rows : List D} {S : Store}
theorem row1 (hg : G[g]? = some F) (hF : ∀ S, F [x] S = .ok (.obj c [f] [cpD x]) S) (hc : c ∈ cs) (hr : rows.length < lim) :
    evS G (grp c (some g) [0] (.cons (.var 0) .nil) (.cons (.var 0) .nil) (.cons (.attr (.var 5) f cs) .nil) (.cons (.attr (.var 6) f cs) .nil) b) ⟨[some (.v x), a1, a2, a3, some (.ol rows), x5, x6, x7, x8], S⟩ =
      evS G b ⟨[some (.v x), a1, a2, a3, some (.ol (rows ++ [rowD S.length [cpD x] [x]])), some (.v (.ref S.length)), some (.v (.ref (S.length + 1))), some (.v (.bl true)), some (.v (.lst [cpD x]))], S ++ [.ins c [f] [cpD x]] ++ [.ins c [f] [cpD x]]⟩ := by
  have l1 : lookF f [f] [cpD x] = some (cpD x) := if_pos rfl
  exact grp_ok hg hF rfl (by simp [lim]) (by simp [lim]) hr (fun _ _ _ _ _ _ => rfl) (fun _ _ _ _ _ _ => rfl) (fun e n h hs => bCons (at_ok h hs hc l1) rfl) (fun e n h hs => bCons (at_ok h hs hc l1) rfl)
theorem row2 (hg : G[g]? = some F) (hF : ∀ S, F [x, y] S = .ok (.obj c [f, f'] [cpD x, cpD y]) S) (hn : f ≠ f') (hc : c ∈ cs) (hc' : c ∈ cs') (hr : rows.length < lim) :
    evS G (grp c (some g) [1, 0] (.cons (.var 0) (.cons (.var 1) .nil)) (.cons (.var 1) (.cons (.var 0) .nil)) (.cons (.attr (.var 5) f cs) (.cons (.attr (.var 5) f' cs') .nil)) (.cons (.attr (.var 6) f cs) (.cons (.attr (.var 6) f' cs') .nil)) b) ⟨[some (.v x), some (.v y), a2, a3, some (.ol rows), x5, x6, x7, x8], S⟩ =
      evS G b ⟨[some (.v x), some (.v y), a2, a3, some (.ol (rows ++ [rowD S.length [cpD x, cpD y] [x, y]])), some (.v (.ref S.length)), some (.v (.ref (S.length + 1))), some (.v (.bl true)), some (.v (.lst [cpD x, cpD y]))], S ++ [.ins c [f, f'] [cpD x, cpD y]] ++ [.ins c [f, f'] [cpD x, cpD y]]⟩ := by
  have l1 : lookF f [f, f'] [cpD x, cpD y] = some (cpD x) := if_pos rfl
  have l2 : lookF f' [f, f'] [cpD x, cpD y] = some (cpD y) := by simp [lookF, hn]
  exact grp_ok hg hF rfl (by simp [lim]) (by simp [lim]) hr (fun _ _ _ _ _ _ => rfl) (fun _ _ _ _ _ _ => rfl) (fun e n h hs => bCons (at_ok h hs hc l1) (bCons (at_ok h hs hc' l2) rfl)) (fun e n h hs => bCons (at_ok h hs hc l1) (bCons (at_ok h hs hc' l2) rfl))
theorem row3 (hg : G[g]? = some F) (hF : ∀ S, F [x, y, z] S = .ok (.obj c [f, f', f''] [cpD x, cpD y, cpD z]) S) (hn : f ≠ f') (hm : f ≠ f'') (hk : f' ≠ f'') (hc : c ∈ cs) (hc' : c ∈ cs') (hc'' : c ∈ cs'') (hr : rows.length < lim) :
    evS G (grp c (some g) [2, 1, 0] (.cons (.var 0) (.cons (.var 1) (.cons (.var 2) .nil))) (.cons (.var 2) (.cons (.var 1) (.cons (.var 0) .nil))) (.cons (.attr (.var 5) f cs) (.cons (.attr (.var 5) f' cs') (.cons (.attr (.var 5) f'' cs'') .nil))) (.cons (.attr (.var 6) f cs) (.cons (.attr (.var 6) f' cs') (.cons (.attr (.var 6) f'' cs'') .nil))) b) ⟨[some (.v x), some (.v y), some (.v z), a3, some (.ol rows), x5, x6, x7, x8], S⟩ =
      evS G b ⟨[some (.v x), some (.v y), some (.v z), a3, some (.ol (rows ++ [rowD S.length [cpD x, cpD y, cpD z] [x, y, z]])), some (.v (.ref S.length)), some (.v (.ref (S.length + 1))), some (.v (.bl true)), some (.v (.lst [cpD x, cpD y, cpD z]))], S ++ [.ins c [f, f', f''] [cpD x, cpD y, cpD z]] ++ [.ins c [f, f', f''] [cpD x, cpD y, cpD z]]⟩ := by
  have l1 : lookF f [f, f', f''] [cpD x, cpD y, cpD z] = some (cpD x) := if_pos rfl
  have l2 : lookF f' [f, f', f''] [cpD x, cpD y, cpD z] = some (cpD y) := by simp [lookF, hn]
  have l3 : lookF f'' [f, f', f''] [cpD x, cpD y, cpD z] = some (cpD z) := by simp [lookF, hm, hk]
  exact grp_ok hg hF rfl (by simp [lim]) (by simp [lim]) hr (fun _ _ _ _ _ _ => rfl) (fun _ _ _ _ _ _ => rfl) (fun e n h hs => bCons (at_ok h hs hc l1) (bCons (at_ok h hs hc' l2) (bCons (at_ok h hs hc'' l3) rfl))) (fun e n h hs => bCons (at_ok h hs hc l1) (bCons (at_ok h hs hc' l2) (bCons (at_ok h hs hc'' l3) rfl)))
end
end Lw

set_option Elab.async false
set_option linter.all false
set_option maxRecDepth 100000
set_option maxHeartbeats 0
namespace Lw
open PySem Ev
/-! ### rows -/
structure Inv (Us : List (List D)) (b : Nat) (S0 : Store) (rows : List D) (S : Store) : Prop where
  len : S.length = b + 2 * rows.length
  row : ∀ (i : Nat) (r : D), rows[i]? = some r → ∃ us c fs, us ∈ Us ∧ c < 41 ∧ r = rowD (b + 2 * i) (us.map cpD) us ∧ S[b + 2 * i]? = some (.ins c fs (us.map cpD)) ∧ S[b + 2 * i + 1]? = some (.ins c fs (us.map cpD))
  pre : ∃ T, S = S0 ++ T
theorem Inv.nil {Us : List (List D)} {S : Store} : Inv Us S.length S [] S := ⟨rfl, (fun i r h => by simp at h), [], by simp⟩
theorem Inv.step {Us : List (List D)} {b : Nat} {S0 S : Store} {rows : List D} (I : Inv Us b S0 rows S) {us vs : List D} {c : Nat} {fs : List PySem.Str} (hu : us ∈ Us) (hc : c < 41) (hv : vs = us.map cpD) : Inv Us b S0 (rows ++ [rowD S.length vs us]) (S ++ [.ins c fs vs] ++ [.ins c fs vs]) := by
  subst hv
  refine ⟨by have := I.len; simp; omega, fun i r h => ?_, ?_⟩
  · by_cases hi : i < rows.length
    · rw [List.getElem?_append_left hi] at h
      obtain ⟨us, c, fs, h1, h2, h3, h4, h5⟩ := I.row i r h
      refine ⟨us, c, fs, h1, h2, h3, ?_, ?_⟩
      · rw [List.append_assoc, List.getElem?_append_left (by have := I.len; omega)]; exact h4
      · rw [List.append_assoc, List.getElem?_append_left (by have := I.len; omega)]; exact h5
    · rw [List.getElem?_append_right (by omega)] at h
      have hi2 : i - rows.length = 0 := by
        cases k : i - rows.length with
        | zero => rfl
        | succ n => rw [k] at h; simp at h
      rw [hi2] at h
      cases h
      have e : b + 2 * i = S.length := by have := I.len; omega
      refine ⟨us, c, fs, hu, hc, by rw [e], ?_, ?_⟩
      · rw [e, List.append_assoc, List.getElem?_append_right (Nat.le_refl _), Nat.sub_self]; rfl
      · rw [e, List.append_assoc, List.getElem?_append_right (by omega), show S.length + 1 - S.length = 1 from by omega]; rfl
  · obtain ⟨T, rfl⟩ := I.pre
    exact ⟨T ++ [.ins c fs (us.map cpD)] ++ [.ins c fs (us.map cpD)], by simp⟩
theorem Inv.app {Us : List (List D)} {b : Nat} {S0 S S' : Store} {r1 r2 : List D} (I : Inv Us b S0 r1 S) (J : Inv Us S.length S r2 S') : Inv Us b S0 (r1 ++ r2) S' := by
  refine ⟨by have := I.len; have := J.len; rw [List.length_append]; omega, fun i r h => ?_, ?_⟩
  · obtain ⟨T, rfl⟩ := J.pre
    by_cases hi : i < r1.length
    · rw [List.getElem?_append_left hi] at h
      obtain ⟨us, c, fs, h1, h2, h3, h4, h5⟩ := I.row i r h
      refine ⟨us, c, fs, h1, h2, h3, ?_, ?_⟩
      · rw [List.getElem?_append_left (by have := I.len; omega)]; exact h4
      · rw [List.getElem?_append_left (by have := I.len; omega)]; exact h5
    · rw [List.getElem?_append_right (by omega)] at h
      obtain ⟨us, c, fs, h1, h2, h3, h4, h5⟩ := J.row _ r h
      have e : S.length + 2 * (i - r1.length) = b + 2 * i := by have := I.len; omega
      rw [e] at h3 h4 h5
      exact ⟨us, c, fs, h1, h2, h3, h4, h5⟩
  · obtain ⟨T, rfl⟩ := I.pre
    obtain ⟨T', rfl⟩ := J.pre
    exact ⟨T ++ T', by simp⟩
/-- how a maker of rows ends -/
def Done (Us : List (List D)) (b : Nat) (S0 : Store) (n : Nat) (R : Res Ev.Env Fl) : Prop := ∃ rows S r, R = .ok (.rt (.lst rows)) ⟨r, S⟩ ∧ rows.length = n ∧ Inv Us b S0 rows S
section
variable {G : List Fn} {c g : Nat} {f f' f'' : PySem.Str} {cs cs' cs'' : List Nat}
variable {F : Fn} {bb : Sm} {x y z : D} {a1 a2 a3 x5 x6 x7 x8 : Option SV} {rows : List D} {S S0 : Store} {Us : List (List D)} {b n : Nat}
theorem don1 (I : Inv Us b S0 rows S) (hu : [x] ∈ Us) (hg : G[g]? = some F) (hF : ∀ S, F [x] S = .ok (.obj c [f] [cpD x]) S) (h41 : c < 41) (hc : c ∈ cs) (hr : rows.length < lim)
    (k : ∀ (rows' : List D) (S' : Store) (x5 x6 x7 x8 : Option SV), rows'.length = rows.length + 1 → Inv Us b S0 rows' S' → Done Us b S0 n (evS G bb ⟨[some (.v x), a1, a2, a3, some (.ol rows'), x5, x6, x7, x8], S'⟩)) :
    Done Us b S0 n (evS G (grp c (some g) [0] (.cons (.var 0) .nil) (.cons (.var 0) .nil) (.cons (.attr (.var 5) f cs) .nil) (.cons (.attr (.var 6) f cs) .nil) bb) ⟨[some (.v x), a1, a2, a3, some (.ol rows), x5, x6, x7, x8], S⟩) := by
  rw [row1 hg hF hc hr]
  exact k _ _ _ _ _ _ (by rw [List.length_append]; rfl) (I.step hu h41 rfl)
theorem don2 (I : Inv Us b S0 rows S) (hu : [x, y] ∈ Us) (hg : G[g]? = some F) (hF : ∀ S, F [x, y] S = .ok (.obj c [f, f'] [cpD x, cpD y]) S) (h41 : c < 41) (hn : f ≠ f') (hc : c ∈ cs) (hc' : c ∈ cs') (hr : rows.length < lim)
    (k : ∀ (rows' : List D) (S' : Store) (x5 x6 x7 x8 : Option SV), rows'.length = rows.length + 1 → Inv Us b S0 rows' S' → Done Us b S0 n (evS G bb ⟨[some (.v x), some (.v y), a2, a3, some (.ol rows'), x5, x6, x7, x8], S'⟩)) :
    Done Us b S0 n (evS G (grp c (some g) [1, 0] (.cons (.var 0) (.cons (.var 1) .nil)) (.cons (.var 1) (.cons (.var 0) .nil)) (.cons (.attr (.var 5) f cs) (.cons (.attr (.var 5) f' cs') .nil)) (.cons (.attr (.var 6) f cs) (.cons (.attr (.var 6) f' cs') .nil)) bb) ⟨[some (.v x), some (.v y), a2, a3, some (.ol rows), x5, x6, x7, x8], S⟩) := by
  rw [row2 hg hF hn hc hc' hr]
  exact k _ _ _ _ _ _ (by rw [List.length_append]; rfl) (I.step hu h41 rfl)
theorem don3 (I : Inv Us b S0 rows S) (hu : [x, y, z] ∈ Us) (hg : G[g]? = some F) (hF : ∀ S, F [x, y, z] S = .ok (.obj c [f, f', f''] [cpD x, cpD y, cpD z]) S) (h41 : c < 41) (hn : f ≠ f') (hm : f ≠ f'') (hk : f' ≠ f'') (hc : c ∈ cs) (hc' : c ∈ cs') (hc'' : c ∈ cs'') (hr : rows.length < lim)
    (k : ∀ (rows' : List D) (S' : Store) (x5 x6 x7 x8 : Option SV), rows'.length = rows.length + 1 → Inv Us b S0 rows' S' → Done Us b S0 n (evS G bb ⟨[some (.v x), some (.v y), some (.v z), a3, some (.ol rows'), x5, x6, x7, x8], S'⟩)) :
    Done Us b S0 n (evS G (grp c (some g) [2, 1, 0] (.cons (.var 0) (.cons (.var 1) (.cons (.var 2) .nil))) (.cons (.var 2) (.cons (.var 1) (.cons (.var 0) .nil))) (.cons (.attr (.var 5) f cs) (.cons (.attr (.var 5) f' cs') (.cons (.attr (.var 5) f'' cs'') .nil))) (.cons (.attr (.var 6) f cs) (.cons (.attr (.var 6) f' cs') (.cons (.attr (.var 6) f'' cs'') .nil))) bb) ⟨[some (.v x), some (.v y), some (.v z), a3, some (.ol rows), x5, x6, x7, x8], S⟩) := by
  rw [row3 hg hF hn hm hk hc hc' hc'' hr]
  exact k _ _ _ _ _ _ (by rw [List.length_append]; rfl) (I.step hu h41 rfl)
end
end Lw

set_option Elab.async false
set_option linter.all false
set_option maxRecDepth 100000
set_option maxHeartbeats 0
namespace Lw
open PySem Ev
theorem made_a {a b c d : D} (ha : Gd a = true) (hb : Gd b = true) (hc : Gd c = true) {Us : List (List D)} (h1 : [a] ∈ Us) (h2 : [a, b] ∈ Us) (h3 : [a, b, c] ∈ Us) (S : Store) : ∃ rows S2, f38 [a, b, c, d] S = .ok (.lst rows) S2 ∧ rows.length = 11 ∧ Inv Us S.length S rows S2 := by
  have key : Done Us S.length S 11 (evS G3 b38 ⟨[some (.v a), some (.v b), some (.v c), some (.v d), none, none, none, none, none], S⟩) := by
    unfold b38
    rw [sSeq (e1 := ⟨[some (.v a), some (.v b), some (.v c), some (.v d), some (.ol []), none, none, none, none], S⟩) (by kernel_rfl)]
    have I : Inv Us S.length S [] S := .nil
    have l : ([] : List D).length = 0 := rfl
    refine don1 I h1 (F := f12) (by kernel_rfl) (fun S => mk1 (by kernel_rfl) ha) (by decide) (by decide) (by rw [l]; decide) ?_
    intro rows S x5 x6 x7 x8 l0 I
    have l : rows.length = 1 := l0
    refine don1 I h1 (F := f13) (by kernel_rfl) (fun S => mk1 (by kernel_rfl) ha) (by decide) (by decide) (by rw [l]; decide) ?_
    intro rows S x5 x6 x7 x8 l0 I
    have l : rows.length = 2 := by omega
    refine don1 I h1 (F := f14) (by kernel_rfl) (fun S => mk1 (by kernel_rfl) ha) (by decide) (by decide) (by rw [l]; decide) ?_
    intro rows S x5 x6 x7 x8 l0 I
    have l : rows.length = 3 := by omega
    refine don1 I h1 (F := f22) (by kernel_rfl) (fun S => mk1 (by kernel_rfl) ha) (by decide) (by decide) (by rw [l]; decide) ?_
    intro rows S x5 x6 x7 x8 l0 I
    have l : rows.length = 4 := by omega
    refine don1 I h1 (F := f23) (by kernel_rfl) (fun S => mk1 (by kernel_rfl) ha) (by decide) (by decide) (by rw [l]; decide) ?_
    intro rows S x5 x6 x7 x8 l0 I
    have l : rows.length = 5 := by omega
    refine don1 I h1 (F := f15) (by kernel_rfl) (fun S => mk1 (by kernel_rfl) ha) (by decide) (by decide) (by rw [l]; decide) ?_
    intro rows S x5 x6 x7 x8 l0 I
    have l : rows.length = 6 := by omega
    refine don3 I h3 (F := f24) (by kernel_rfl) (fun S => mk3 (by kernel_rfl) ha hb hc (by decide) (by decide)) (by decide) (by decide) (by decide) (by decide) (by decide) (by decide) (by decide) (by rw [l]; decide) ?_
    intro rows S x5 x6 x7 x8 l0 I
    have l : rows.length = 7 := by omega
    refine don2 I h2 (F := f25) (by kernel_rfl) (fun S => mk2 (by kernel_rfl) ha hb (by decide)) (by decide) (by decide) (by decide) (by decide) (by rw [l]; decide) ?_
    intro rows S x5 x6 x7 x8 l0 I
    have l : rows.length = 8 := by omega
    refine don2 I h2 (F := f26) (by kernel_rfl) (fun S => mk2 (by kernel_rfl) ha hb (by decide)) (by decide) (by decide) (by decide) (by decide) (by rw [l]; decide) ?_
    intro rows S x5 x6 x7 x8 l0 I
    have l : rows.length = 9 := by omega
    refine don1 I h1 (F := f27) (by kernel_rfl) (fun S => mk1 (by kernel_rfl) ha) (by decide) (by decide) (by rw [l]; decide) ?_
    intro rows S x5 x6 x7 x8 l0 I
    have l : rows.length = 10 := by omega
    refine don2 I h2 (F := f28) (by kernel_rfl) (fun S => mk2 (by kernel_rfl) ha hb (by decide)) (by decide) (by decide) (by decide) (by decide) (by rw [l]; decide) ?_
    intro rows S x5 x6 x7 x8 l0 I
    have l : rows.length = 11 := by omega
    exact ⟨rows, S, _, rfl, l, I⟩
  obtain ⟨rows, S2, r, e, l, I⟩ := key
  refine ⟨rows, S2, ?_, l, I⟩
  show finS (evS G3 b38 ⟨[some (.v a), some (.v b), some (.v c), some (.v d), none, none, none, none, none], S⟩) = _
  rw [e]; rfl
theorem made_b {a b c d : D} (ha : Gd a = true) (hb : Gd b = true) (hc : Gd c = true) {Us : List (List D)} (h1 : [a] ∈ Us) (h2 : [a, b] ∈ Us) (h3 : [a, b, c] ∈ Us) (S : Store) : ∃ rows S2, f39 [a, b, c, d] S = .ok (.lst rows) S2 ∧ rows.length = 11 ∧ Inv Us S.length S rows S2 := by
  have key : Done Us S.length S 11 (evS G3 b39 ⟨[some (.v a), some (.v b), some (.v c), some (.v d), none, none, none, none, none], S⟩) := by
    unfold b39
    rw [sSeq (e1 := ⟨[some (.v a), some (.v b), some (.v c), some (.v d), some (.ol []), none, none, none, none], S⟩) (by kernel_rfl)]
    have I : Inv Us S.length S [] S := .nil
    have l : ([] : List D).length = 0 := rfl
    refine don2 I h2 (F := f29) (by kernel_rfl) (fun S => mk2 (by kernel_rfl) ha hb (by decide)) (by decide) (by decide) (by decide) (by decide) (by rw [l]; decide) ?_
    intro rows S x5 x6 x7 x8 l0 I
    have l : rows.length = 1 := l0
    refine don2 I h2 (F := f6) (by kernel_rfl) (fun S => mk2 (by kernel_rfl) ha hb (by decide)) (by decide) (by decide) (by decide) (by decide) (by rw [l]; decide) ?_
    intro rows S x5 x6 x7 x8 l0 I
    have l : rows.length = 2 := by omega
    refine don2 I h2 (F := f7) (by kernel_rfl) (fun S => mk2 (by kernel_rfl) ha hb (by decide)) (by decide) (by decide) (by decide) (by decide) (by rw [l]; decide) ?_
    intro rows S x5 x6 x7 x8 l0 I
    have l : rows.length = 3 := by omega
    refine don2 I h2 (F := f8) (by kernel_rfl) (fun S => mk2 (by kernel_rfl) ha hb (by decide)) (by decide) (by decide) (by decide) (by decide) (by rw [l]; decide) ?_
    intro rows S x5 x6 x7 x8 l0 I
    have l : rows.length = 4 := by omega
    refine don2 I h2 (F := f9) (by kernel_rfl) (fun S => mk2 (by kernel_rfl) ha hb (by decide)) (by decide) (by decide) (by decide) (by decide) (by rw [l]; decide) ?_
    intro rows S x5 x6 x7 x8 l0 I
    have l : rows.length = 5 := by omega
    refine don2 I h2 (F := f10) (by kernel_rfl) (fun S => mk2 (by kernel_rfl) ha hb (by decide)) (by decide) (by decide) (by decide) (by decide) (by rw [l]; decide) ?_
    intro rows S x5 x6 x7 x8 l0 I
    have l : rows.length = 6 := by omega
    refine don3 I h3 (F := f11) (by kernel_rfl) (fun S => mk3 (by kernel_rfl) ha hb hc (by decide) (by decide)) (by decide) (by decide) (by decide) (by decide) (by decide) (by decide) (by decide) (by rw [l]; decide) ?_
    intro rows S x5 x6 x7 x8 l0 I
    have l : rows.length = 7 := by omega
    refine don2 I h2 (F := f30) (by kernel_rfl) (fun S => mk2 (by kernel_rfl) ha hb (by decide)) (by decide) (by decide) (by decide) (by decide) (by rw [l]; decide) ?_
    intro rows S x5 x6 x7 x8 l0 I
    have l : rows.length = 8 := by omega
    refine don2 I h2 (F := f31) (by kernel_rfl) (fun S => mk2 (by kernel_rfl) ha hb (by decide)) (by decide) (by decide) (by decide) (by decide) (by rw [l]; decide) ?_
    intro rows S x5 x6 x7 x8 l0 I
    have l : rows.length = 9 := by omega
    refine don1 I h1 (F := f17) (by kernel_rfl) (fun S => mk1 (by kernel_rfl) ha) (by decide) (by decide) (by rw [l]; decide) ?_
    intro rows S x5 x6 x7 x8 l0 I
    have l : rows.length = 10 := by omega
    refine don2 I h2 (F := f18) (by kernel_rfl) (fun S => mk2 (by kernel_rfl) ha hb (by decide)) (by decide) (by decide) (by decide) (by decide) (by rw [l]; decide) ?_
    intro rows S x5 x6 x7 x8 l0 I
    have l : rows.length = 11 := by omega
    exact ⟨rows, S, _, rfl, l, I⟩
  obtain ⟨rows, S2, r, e, l, I⟩ := key
  refine ⟨rows, S2, ?_, l, I⟩
  show finS (evS G3 b39 ⟨[some (.v a), some (.v b), some (.v c), some (.v d), none, none, none, none, none], S⟩) = _
  rw [e]; rfl
theorem made_c {a b c d : D} (ha : Gd a = true) (hb : Gd b = true) (hc : Gd c = true) {Us : List (List D)} (h1 : [a] ∈ Us) (h2 : [a, b] ∈ Us) (h3 : [a, b, c] ∈ Us) (S : Store) : ∃ rows S2, f40 [a, b, c, d] S = .ok (.lst rows) S2 ∧ rows.length = 9 ∧ Inv Us S.length S rows S2 := by
  have key : Done Us S.length S 9 (evS G3 b40 ⟨[some (.v a), some (.v b), some (.v c), some (.v d), none, none, none, none, none], S⟩) := by
    unfold b40
    rw [sSeq (e1 := ⟨[some (.v a), some (.v b), some (.v c), some (.v d), some (.ol []), none, none, none, none], S⟩) (by kernel_rfl)]
    have I : Inv Us S.length S [] S := .nil
    have l : ([] : List D).length = 0 := rfl
    refine don2 I h2 (F := f19) (by kernel_rfl) (fun S => mk2 (by kernel_rfl) ha hb (by decide)) (by decide) (by decide) (by decide) (by decide) (by rw [l]; decide) ?_
    intro rows S x5 x6 x7 x8 l0 I
    have l : rows.length = 1 := l0
    refine don2 I h2 (F := f20) (by kernel_rfl) (fun S => mk2 (by kernel_rfl) ha hb (by decide)) (by decide) (by decide) (by decide) (by decide) (by rw [l]; decide) ?_
    intro rows S x5 x6 x7 x8 l0 I
    have l : rows.length = 2 := by omega
    refine don1 I h1 (F := f21) (by kernel_rfl) (fun S => mk1 (by kernel_rfl) ha) (by decide) (by decide) (by rw [l]; decide) ?_
    intro rows S x5 x6 x7 x8 l0 I
    have l : rows.length = 3 := by omega
    refine don2 I h2 (F := f32) (by kernel_rfl) (fun S => mk2 (by kernel_rfl) ha hb (by decide)) (by decide) (by decide) (by decide) (by decide) (by rw [l]; decide) ?_
    intro rows S x5 x6 x7 x8 l0 I
    have l : rows.length = 4 := by omega
    refine don2 I h2 (F := f33) (by kernel_rfl) (fun S => mk2 (by kernel_rfl) ha hb (by decide)) (by decide) (by decide) (by decide) (by decide) (by rw [l]; decide) ?_
    intro rows S x5 x6 x7 x8 l0 I
    have l : rows.length = 5 := by omega
    refine don1 I h1 (F := f16) (by kernel_rfl) (fun S => mk1 (by kernel_rfl) ha) (by decide) (by decide) (by rw [l]; decide) ?_
    intro rows S x5 x6 x7 x8 l0 I
    have l : rows.length = 6 := by omega
    refine don3 I h3 (F := f34) (by kernel_rfl) (fun S => mk3 (by kernel_rfl) ha hb hc (by decide) (by decide)) (by decide) (by decide) (by decide) (by decide) (by decide) (by decide) (by decide) (by rw [l]; decide) ?_
    intro rows S x5 x6 x7 x8 l0 I
    have l : rows.length = 7 := by omega
    refine don2 I h2 (F := f35) (by kernel_rfl) (fun S => mk2 (by kernel_rfl) ha hb (by decide)) (by decide) (by decide) (by decide) (by decide) (by rw [l]; decide) ?_
    intro rows S x5 x6 x7 x8 l0 I
    have l : rows.length = 8 := by omega
    refine don3 I h3 (F := f36) (by kernel_rfl) (fun S => mk3 (by kernel_rfl) ha hb hc (by decide) (by decide)) (by decide) (by decide) (by decide) (by decide) (by decide) (by decide) (by decide) (by rw [l]; decide) ?_
    intro rows S x5 x6 x7 x8 l0 I
    have l : rows.length = 9 := by omega
    exact ⟨rows, S, _, rfl, l, I⟩
  obtain ⟨rows, S2, r, e, l, I⟩ := key
  refine ⟨rows, S2, ?_, l, I⟩
  show finS (evS G3 b40 ⟨[some (.v a), some (.v b), some (.v c), some (.v d), none, none, none, none, none], S⟩) = _
  rw [e]; rfl
end Lw

set_option Elab.async false
set_option linter.all false
set_option maxRecDepth 100000
set_option maxHeartbeats 0
namespace Lw
open PySem Ev
def grp0 (c : Nat) (b : Sm) : Sm := (.seq (.par 1 2 (.toc (.newx c none [] .nil)) (.toc (.newx c none [] .nil))) (.seq (.app 0 (.tup (.cons (.var 1) (.cons (.var 2) (.cons (.isi (.var 1) [(.cls c)] [c]) (.cons (.disp .nil) (.cons (.disp .nil) (.cons (.disp .nil) .nil)))))))) b))
theorem don0 {G : List Fn} {c : Nat} {bb : Sm} {rows : List D} {S S0 : Store} {Us : List (List D)} {b n : Nat} {x1 x2 : Option SV} (I : Inv Us b S0 rows S) (hu : [] ∈ Us) (h41 : c < 41) (hr : rows.length < lim)
    (k : ∀ (rows' : List D) (S' : Store) (x1 x2 : Option SV), rows'.length = rows.length + 1 → Inv Us b S0 rows' S' → Done Us b S0 n (evS G bb ⟨[some (.ol rows'), x1, x2], S'⟩)) :
    Done Us b S0 n (evS G (grp0 c bb) ⟨[some (.ol rows), x1, x2], S⟩) := by
  let S2 := S ++ [Cell.ins c [] []] ++ [Cell.ins c [] []]
  let e1 : Ev.Env := ⟨[some (.ol rows), some (.v (.ref S.length)), some (.v (.ref (S.length + 1)))], S2⟩
  have n1 : S2[S.length]? = some (.ins c [] []) := by
    show (S ++ [Cell.ins c [] []] ++ [Cell.ins c [] []])[S.length]? = _
    rw [List.append_assoc, List.getElem?_append_right (Nat.le_refl _), Nat.sub_self]; rfl
  have s1 : evS G (.par 1 2 (.toc (.newx c none [] .nil)) (.toc (.newx c none [] .nil))) ⟨[some (.ol rows), x1, x2], S⟩ = .ok .nx e1 := by
    refine (sPar (d1 := .ref S.length) (d2 := .ref (S.length + 1)) (e1 := ⟨[some (.ol rows), x1, x2], S ++ [.ins c [] []]⟩) (e2 := ⟨[some (.ol rows), x1, x2], S2⟩) bNew0 (bNew0.trans ?_) ⟨by show 1 < 3; decide, by show 2 < 3; decide⟩).trans rfl
    show Res.ok (D.ref (S ++ [Cell.ins c [] []]).length) _ = _
    rw [List.length_append]; rfl
  have s3 : evS G (.app 0 (.tup (.cons (.var 1) (.cons (.var 2) (.cons (.isi (.var 1) [(.cls c)] [c]) (.cons (.disp .nil) (.cons (.disp .nil) (.cons (.disp .nil) .nil)))))))) e1 = .ok .nx (e1.set 0 (some (.ol (rows ++ [rowD S.length [] []])))) := by
    refine sApp (xs := rows) rfl (dV (bTup (ds := [.ref S.length, .ref (S.length + 1), .bl true, .lst [], .lst [], .lst []]) (e1 := e1) ?_ (by simp [lim]))) rfl hr
    exact bCons (dV (bVar (e := e1) rfl)) (bCons (dV (bVar (e := e1) rfl)) (bCons (dV (bIsi (dV (bVar (e := e1) (d := .ref S.length) rfl)) (isin_cls n1))) rfl))
  rw [show evS G (grp0 c bb) ⟨[some (.ol rows), x1, x2], S⟩ = evS G bb ⟨[some (.ol (rows ++ [rowD S.length [] []])), some (.v (.ref S.length)), some (.v (.ref (S.length + 1)))], S2⟩ from (sSeq s1).trans ((sSeq s3).trans rfl)]
  exact k _ _ _ _ (by rw [List.length_append]; rfl) (I.step hu h41 rfl)
theorem made_0 {Us : List (List D)} (h0 : [] ∈ Us) (S : Store) : ∃ rows S2, f3 [] S = .ok (.lst rows) S2 ∧ rows.length = 10 ∧ Inv Us S.length S rows S2 := by
  have key : Done Us S.length S 10 (evS G0 b3 ⟨[none, none, none], S⟩) := by
    unfold b3
    rw [sSeq (e1 := ⟨[some (.ol []), none, none], S⟩) (by kernel_rfl)]
    have I : Inv Us S.length S [] S := .nil
    have l : ([] : List D).length = 0 := rfl
    refine don0 I h0 (by decide) (by rw [l]; decide) ?_
    intro rows S x1 x2 l0 I
    have l : rows.length = 1 := l0
    refine don0 I h0 (by decide) (by rw [l]; decide) ?_
    intro rows S x1 x2 l0 I
    have l : rows.length = 2 := by omega
    refine don0 I h0 (by decide) (by rw [l]; decide) ?_
    intro rows S x1 x2 l0 I
    have l : rows.length = 3 := by omega
    refine don0 I h0 (by decide) (by rw [l]; decide) ?_
    intro rows S x1 x2 l0 I
    have l : rows.length = 4 := by omega
    refine don0 I h0 (by decide) (by rw [l]; decide) ?_
    intro rows S x1 x2 l0 I
    have l : rows.length = 5 := by omega
    refine don0 I h0 (by decide) (by rw [l]; decide) ?_
    intro rows S x1 x2 l0 I
    have l : rows.length = 6 := by omega
    refine don0 I h0 (by decide) (by rw [l]; decide) ?_
    intro rows S x1 x2 l0 I
    have l : rows.length = 7 := by omega
    refine don0 I h0 (by decide) (by rw [l]; decide) ?_
    intro rows S x1 x2 l0 I
    have l : rows.length = 8 := by omega
    refine don0 I h0 (by decide) (by rw [l]; decide) ?_
    intro rows S x1 x2 l0 I
    have l : rows.length = 9 := by omega
    refine don0 I h0 (by decide) (by rw [l]; decide) ?_
    intro rows S x1 x2 l0 I
    have l : rows.length = 10 := by omega
    exact ⟨rows, S, _, rfl, l, I⟩
  obtain ⟨rows, S2, r, e, l, I⟩ := key
  refine ⟨rows, S2, ?_, l, I⟩
  show finS (evS G0 b3 ⟨[none, none, none], S⟩) = _
  rw [e]; rfl
end Lw

set_option Elab.async false
set_option linter.all false
set_option maxRecDepth 100000
set_option maxHeartbeats 0
namespace Lw
open PySem Ev
/-! ### values that are told by repr -/
structure Rp (x : D) : Prop where
  ex : ∃ p : PyData, x.toQ = some p ∧ p.showable = true ∧ p.shown.length ≤ 1000 ∧ p.depth ≤ 20 ∧ PyData.strOk p.shown = true
structure Sv (x : D) : Prop where
  gd : Gd x = true
  r1 : Rp x
  r2 : Rp (cpD x)
theorem Rp.repr {x : D} (h : Rp x) : ∃ z : PySem.Str, biRepr [x] = some (.v (.str z)) ∧ PyData.strOk z = true := by
  obtain ⟨p, h1, h2, h3, h4, h5⟩ := h.ex
  refine ⟨p.shown, ?_, h5⟩
  show x.toQ.bind reprP = _
  rw [h1]
  exact if_pos ⟨h2, Nat.le_trans h3 (by decide), Nat.le_trans h4 (by decide)⟩
theorem textFrom_le : ∀ (ts : List PySem.Str) (k : Nat) (acc : PySem.Str), (textFrom k acc ts).length ≤ acc.length + piled ts
  | [], k, acc => by show acc.length ≤ _; omega
  | t :: r, k, acc => by
    have h := textFrom_le r (k + 1) (acc ++ (if k > 0 then ", " else "" : String) ++ t)
    have e : (acc ++ (if k > 0 then ", " else "" : String) ++ t).length = acc.length + (if k > 0 then 2 else 0) + t.length := by
      rw [strLen_append, strLen_append]
      split <;> rfl
    have e2 : piled (t :: r) = t.length + 2 + piled r := by simp [piled]
    show (textFrom (k + 1) _ r).length ≤ _
    rw [e] at h
    rw [e2]
    have d1 : (if k > 0 then 2 else 0 : Nat) ≤ 2 := by split <;> omega
    omega
theorem strOk_app {x y : PySem.Str} (h1 : PyData.strOk x = true) (h2 : PyData.strOk y = true) : PyData.strOk (x ++ y) = true := by
  obtain ⟨x⟩ := x
  obtain ⟨y⟩ := y
  show Array.all (x ++ y) _ = true
  have h1 : Array.all x (fun c => decide (c < 0x110000)) = true := h1
  have h2 : Array.all y (fun c => decide (c < 0x110000)) = true := h2
  rw [Array.all_append, h1, h2]; rfl
theorem textFrom_ok : ∀ (ts : List PySem.Str) (k : Nat) (acc : PySem.Str), (∀ t ∈ ts, PyData.strOk t = true) → PyData.strOk acc = true → PyData.strOk (textFrom k acc ts) = true
  | [], k, acc, _, h => h
  | t :: r, k, acc, h, ha => by
    show PyData.strOk (textFrom (k + 1) _ r) = true
    refine textFrom_ok r (k + 1) _ (fun u hu => h u (List.mem_cons_of_mem _ hu)) (strOk_app (strOk_app ha ?_) (h t List.mem_cons_self))
    split <;> decide +kernel
theorem toQs_of : ∀ {us : List D}, (∀ x ∈ us, Rp x) → ∃ ps, D.toQs us = some ps ∧ PyData.showableAll ps = true ∧ piled (PyData.shownAll ps) ≤ 1002 * us.length ∧ PyData.depthAll ps ≤ 20 ∧ ∀ t ∈ PyData.shownAll ps, PyData.strOk t = true
  | [], _ => ⟨[], by kernel_rfl, by kernel_rfl, by decide +kernel, by decide +kernel, by decide +kernel⟩
  | x :: us, h => by
    obtain ⟨p, h1, h2, h3, h4, h5⟩ := (h x List.mem_cons_self).ex
    obtain ⟨ps, g1, g2, g3, g4, g5⟩ := toQs_of fun y hy => h y (List.mem_cons_of_mem _ hy)
    refine ⟨p :: ps, by simp only [D.toQs, h1, g1, Option.bind_some, Option.map_some], by simp only [PyData.showableAll, h2, g2, Bool.and_self], ?_, ?_, ?_⟩
    · have e2 : piled (PyData.shownAll (p :: ps)) = p.shown.length + 2 + piled (PyData.shownAll ps) := by simp [piled, PyData.shownAll]
      rw [e2, List.length_cons]; omega
    · simp only [PyData.depthAll]; omega
    · intro t ht
      simp only [PyData.shownAll, List.mem_cons] at ht
      rcases ht with rfl | ht
      · exact h5
      · exact g5 t ht
theorem repr_l {us : List D} (h : ∀ x ∈ us, Rp x) (hl : us.length ≤ 10) : ∃ z : PySem.Str, biRepr [.lst us] = some (.v (.str z)) ∧ PyData.strOk z = true := by
  obtain ⟨ps, g1, g2, g3, g4, g5⟩ := toQs_of h
  refine ⟨(PyData.list ps).shown, ?_, by
    simp only [PyData.shown]
    exact strOk_app (textFrom_ok _ _ _ g5 (by decide +kernel)) (by decide +kernel)⟩
  show (D.toQ (.lst us)).bind reprP = _
  rw [show D.toQ (.lst us) = some (.list ps) by simp only [D.toQ, g1, Option.map_some]]
  refine if_pos ⟨by simp only [PyData.showable, g2], ?_, by simp only [PyData.depth]; omega⟩
  simp only [PyData.shown]
  unfold listText
  rw [strLen_append]
  have := textFrom_le (PyData.shownAll ps) 0 "["
  have e1 : ("[" : PySem.Str).length = 1 := by decide
  have e2 : ("]" : PySem.Str).length = 1 := by decide
  unfold lim
  omega
/-- small ints in a list -/
theorem ints9 : ∀ i j k : Fin 9, (PyData.list [.int i.val, .int j.val, .int k.val]).shown.length ≤ 1000 ∧ (PyData.tuple [.int i.val, .int j.val, .int k.val]).shown.length ≤ 1000 ∧ PyData.strOk (PyData.list [.int i.val, .int j.val, .int k.val]).shown = true ∧ PyData.strOk (PyData.tuple [.int i.val, .int j.val, .int k.val]).shown = true := by decide +kernel
theorem show9 {i : Int} (h0 : 0 ≤ i) (h1 : i < 9) : PyData.showable (.int i) = true := by
  simp only [PyData.showable, decide_eq_true_eq]
  obtain ⟨n, rfl⟩ := Int.eq_ofNat_of_zero_le h0
  have : n < 9 := by omega
  exact (by decide +kernel : ∀ n : Fin 9, (Int.natAbs (n.val : Int)).log2 < 1920) ⟨n, this⟩
theorem sv9 {i j k : Int} (i0 : 0 ≤ i) (i1 : i < 9) (j0 : 0 ≤ j) (j1 : j < 9) (k0 : 0 ≤ k) (k1 : k < 9) : Sv (.lst [.int i, .int j, .int k]) := by
  have si := show9 i0 i1
  have sj := show9 j0 j1
  have sk := show9 k0 k1
  obtain ⟨a, rfl⟩ := Int.eq_ofNat_of_zero_le i0
  obtain ⟨b, rfl⟩ := Int.eq_ofNat_of_zero_le j0
  obtain ⟨c, rfl⟩ := Int.eq_ofNat_of_zero_le k0
  have h := ints9 ⟨a, by omega⟩ ⟨b, by omega⟩ ⟨c, by omega⟩
  refine ⟨rfl, ⟨_, rfl, ?_, h.1, by simp [PyData.depth, PyData.depthAll], h.2.2.1⟩, ⟨_, rfl, ?_, h.2.1, by simp [PyData.depth, PyData.depthAll], h.2.2.2⟩⟩
  · simp only [PyData.showable] at si sj sk ⊢
    simp only [PyData.showableAll, PyData.showable, si, sj, sk, Bool.and_self]
  · simp only [PyData.showable] at si sj sk ⊢
    simp only [PyData.showableAll, PyData.showable, si, sj, sk, Bool.and_self]
/-- the values without a cell -/
def flat : List D := [.tup [.int 1, .int 2], .tup [], .str "web", .int 5, .non, .bl true, .tup [.tup [.int 0, .int 1]], .dct [.str "a"] [.int 1], .int (-3), .str ""]
def svB (x : D) : Bool := Gd x && (match x.toQ with
  | some p => p.showable && decide (p.shown.length ≤ 1000) && decide (p.depth ≤ 20) && PyData.strOk p.shown
  | none => false) && (match (cpD x).toQ with
  | some p => p.showable && decide (p.shown.length ≤ 1000) && decide (p.depth ≤ 20) && PyData.strOk p.shown
  | none => false)
theorem sv_of {x : D} (h : svB x = true) : Sv x := by
  unfold svB at h
  simp only [Bool.and_eq_true] at h
  obtain ⟨⟨h1, h2⟩, h3⟩ := h
  refine ⟨h1, ⟨?_⟩, ⟨?_⟩⟩
  · split at h2
    · rename_i p hp
      simp only [Bool.and_eq_true, decide_eq_true_eq] at h2
      exact ⟨p, hp, h2.1.1.1, h2.1.1.2, h2.1.2, h2.2⟩
    · cases h2
  · split at h3
    · rename_i p hp
      simp only [Bool.and_eq_true, decide_eq_true_eq] at h3
      exact ⟨p, hp, h3.1.1.1, h3.1.1.2, h3.1.2, h3.2⟩
    · cases h3
/-- no list, no cell -/
def flatB : D → Bool
  | .lst _ => false
  | .ref _ => false
  | _ => true
/-- a drawn value -/
structure VOk (v : D) (T : Store) : Prop where
  ok : (Sv v ∧ flatB v = true) ∨ ∃ n xs, v = .ref (n + 1) ∧ T[n]? = some (.lst xs) ∧ Sv (.lst xs) ∧ xs.length ≤ 10
theorem VOk.mono {v : D} {T : Store} (h : VOk v T) (T' : Store) : VOk v (T ++ T') := by
  rcases h.ok with h | ⟨n, xs, h1, h2, h3⟩
  · exact ⟨.inl h⟩
  · exact ⟨.inr ⟨n, xs, h1, by rw [List.getElem?_append_left (List.getElem?_eq_some_iff.mp h2).1]; exact h2, h3⟩⟩
def L14 (n : Nat) : List D := [.tup [.int 1, .int 2], .ref (n + 1), .ref (n + 2), .tup [], .str "web", .int 5, .non, .bl true, .tup [.tup [.int 0, .int 1]], .ref (n + 3), .dct [.str "a"] [.int 1], .int (-3), .str "", .ref (n + 4)]
def C4 : List Cell := [.lst [.int 1, .lst [.int 2]], .lst [], .lst [.lst [.int 0], .lst [.int 1]], .lst [.non]]
theorem val_at {n : Nat} {T : Store} {x : D} {i j k : Int} (hn : T.length = n) (i0 : 0 ≤ i) (i1 : i < 9) (j0 : 0 ≤ j) (j1 : j < 9) (k0 : 0 ≤ k) (k1 : k < 9) {m : Nat} (h : (L14 n ++ [.ref (n + 5)])[m]? = some x) : VOk x (T ++ (C4 ++ [.lst [.int i, .int j, .int k]])) := by
  have fl : ∀ {x : D}, svB x = true → flatB x = true → VOk x (T ++ (C4 ++ [.lst [.int i, .int j, .int k]])) := fun h1 h2 => ⟨.inl ⟨sv_of h1, h2⟩⟩
  have rf : ∀ {q : Nat} {xs : List D}, (C4 ++ [Cell.lst [.int i, .int j, .int k]])[q]? = some (.lst xs) → Sv (.lst xs) → xs.length ≤ 10 → VOk (.ref (n + q + 1)) (T ++ (C4 ++ [.lst [.int i, .int j, .int k]])) := fun {q xs} h1 h2 h3 =>
    ⟨.inr ⟨n + q, xs, rfl, by rw [List.getElem?_append_right (by omega), hn, Nat.add_sub_cancel_left]; exact h1, h2, h3⟩⟩
  match m, h with
  | 0, h => cases h; exact fl (by decide +kernel) rfl
  | 1, h => cases h; exact rf (q := 0) rfl (sv_of (by decide +kernel)) (by simp)
  | 2, h => cases h; exact rf (q := 1) rfl (sv_of (by decide +kernel)) (by simp)
  | 3, h => cases h; exact fl (by decide +kernel) rfl
  | 4, h => cases h; exact fl (by decide +kernel) rfl
  | 5, h => cases h; exact fl (by decide +kernel) rfl
  | 6, h => cases h; exact fl (by decide +kernel) rfl
  | 7, h => cases h; exact fl (by decide +kernel) rfl
  | 8, h => cases h; exact fl (by decide +kernel) rfl
  | 9, h => cases h; exact rf (q := 2) rfl (sv_of (by decide +kernel)) (by simp)
  | 10, h => cases h; exact fl (by decide +kernel) rfl
  | 11, h => cases h; exact fl (by decide +kernel) rfl
  | 12, h => cases h; exact fl (by decide +kernel) rfl
  | 13, h => cases h; exact rf (q := 3) rfl (sv_of (by decide +kernel)) (by simp)
  | 14, h => cases h; exact rf (q := 4) rfl (sv9 i0 i1 j0 j1 k0 k1) (by simp)
  | m + 15, h => simp [L14] at h
end Lw

set_option Elab.async false
set_option linter.all false
set_option maxRecDepth 100000
set_option maxHeartbeats 0
namespace Lw
open PySem Ev
variable {cs : List Int} {at_ dg ct fo : Int} {T : Store}
theorem pick_ok (P : PenOk cs at_ dg ct fo) (hc : ct ≤ 1000000) {xs : List D} (h0 : 0 < xs.length) (h1 : xs.length ≤ lim) : ∃ (m : Nat) (x : D) (at2 dg2 fo2 : Int), xs[m]? = some x ∧ f5 [.ref 0, .lst xs] (penC cs at_ dg ct fo :: T) = .ok x (penC cs at2 dg2 (ct + 1) fo2 :: T) ∧ PenOk cs at2 dg2 (ct + 1) fo2 := by
  have h2 : (xs.length : Int) < 1073741824 := by unfold lim at h1; omega
  obtain ⟨d, at2, dg2, fo2, d0, d1, hd, P2⟩ := draw_ok (T := T) P hc (many := xs.length) (by omega) h2
  obtain ⟨m, rfl⟩ := Int.eq_ofNat_of_zero_le d0
  have hm : m < xs.length := by omega
  refine ⟨m, xs[m], at2, dg2, fo2, List.getElem?_eq_getElem hm, ?_, P2⟩
  let e0 : Ev.Env := ⟨[some (.v (.ref 0)), some (.v (.lst xs))], penC cs at_ dg ct fo :: T⟩
  let e1 : Ev.Env := ⟨[some (.v (.ref 0)), some (.v (.lst xs))], penC cs at2 dg2 (ct + 1) fo2 :: T⟩
  show finS (evS G1 b5 e0) = _
  have k : evS G1 b5 e0 = .ok (.rt xs[m]) e1 := by
    refine sSeqR (sRet (dV (bIdx (d1 := .lst xs) (d2 := .int m) (e1 := e0) (e2 := e1) (dV (bVar rfl)) (dV (bCall (f := f2) (ds := [.ref 0, .int xs.length]) (e1 := e0) (bCons (dV (bVar rfl)) (bCons (dV (bBi (ds := [.lst xs]) (e1 := e0) (bCons (dV (bVar rfl)) bNil) (by kernel_rfl))) bNil)) (by kernel_rfl) hd)) ?_)))
    show atI xs m = _
    exact L2.atI_nat (List.getElem?_eq_getElem hm)
  rw [k]; rfl
def LL (p q r s : Nat) : List D := [.tup [.int 1, .int 2], .ref p, .ref q, .tup [], .str "web", .int 5, .non, .bl true, .tup [.tup [.int 0, .int 1]], .ref r, .dct [.str "a"] [.int 1], .int (-3), .str "", .ref s]
theorem value_ok (P : PenOk cs at_ dg ct fo) (hc : ct ≤ 900000) : ∃ (v : D) (at2 dg2 fo2 : Int) (T' : Store), f37 [.ref 0] (penC cs at_ dg ct fo :: T) = .ok v (penC cs at2 dg2 (ct + 4) fo2 :: (T ++ T')) ∧ PenOk cs at2 dg2 (ct + 4) fo2 ∧ VOk v (T ++ T') := by
  let A0 : Store := penC cs at_ dg ct fo :: T
  let A1 : Store := A0 ++ [.lst [.int 1, .lst [.int 2]]]
  let A2 : Store := A1 ++ [.lst []]
  let A3 : Store := A2 ++ [.lst [.lst [.int 0], .lst [.int 1]]]
  let A4 : Store := A3 ++ [.lst [.non]]
  let e0 : Ev.Env := ⟨[some (.v (.ref 0)), none, none], A0⟩
  have l0 : A0.length = T.length + 1 := rfl
  have l1 : A1.length = T.length + 2 := by show (A0 ++ [_]).length = _; rw [List.length_append, l0]; rfl
  have l2 : A2.length = T.length + 3 := by show (A1 ++ [_]).length = _; rw [List.length_append, l1]; rfl
  have l3 : A3.length = T.length + 4 := by show (A2 ++ [_]).length = _; rw [List.length_append, l2]; rfl
  have e4 : A4 = penC cs at_ dg ct fo :: (T ++ C4) := by
    show (((A0 ++ _) ++ _) ++ _) ++ _ = _
    simp [A0, C4]
  have s1 : ∀ b, evS G2 (.seq (.asg (.v 1) (.disp (.cons (.tup (.cons (.int 1) (.cons (.int 2) .nil))) (.cons (.toc (.disp (.cons (.int 1) (.cons (.disp (.cons (.int 2) .nil)) .nil)))) (.cons (.toc (.disp .nil)) (.cons (.tup .nil) (.cons (.str "web") (.cons (.int 5) (.cons .non (.cons (.bl true) (.cons (.tup (.cons (.tup (.cons (.int 0) (.cons (.int 1) .nil))) .nil)) (.cons (.toc (.disp (.cons (.disp (.cons (.int 0) .nil)) (.cons (.disp (.cons (.int 1) .nil)) .nil)))) (.cons (.ddisp ["a"] (.cons (.int 1) .nil)) (.cons (.neg (.int 3)) (.cons (.str "") (.cons (.toc (.disp (.cons .non .nil))) .nil)))))))))))))))) b) e0 =
      evS G2 b ⟨[some (.v (.ref 0)), some (.v (.lst (L14 T.length))), none], penC cs at_ dg ct fo :: (T ++ C4)⟩ := fun b => by
    have k : evS G2 (.asg (.v 1) (.disp (.cons (.tup (.cons (.int 1) (.cons (.int 2) .nil))) (.cons (.toc (.disp (.cons (.int 1) (.cons (.disp (.cons (.int 2) .nil)) .nil)))) (.cons (.toc (.disp .nil)) (.cons (.tup .nil) (.cons (.str "web") (.cons (.int 5) (.cons .non (.cons (.bl true) (.cons (.tup (.cons (.tup (.cons (.int 0) (.cons (.int 1) .nil))) .nil)) (.cons (.toc (.disp (.cons (.disp (.cons (.int 0) .nil)) (.cons (.disp (.cons (.int 1) .nil)) .nil)))) (.cons (.ddisp ["a"] (.cons (.int 1) .nil)) (.cons (.neg (.int 3)) (.cons (.str "") (.cons (.toc (.disp (.cons .non .nil))) .nil)))))))))))))))) e0 = .ok .nx ⟨[some (.v (.ref 0)), some (.v (.lst (LL A0.length A1.length A2.length A3.length))), none], A4⟩ := by kernel_rfl
    rw [sSeq k, l0, l1, l2, l3, e4]; rfl
  -- three draws
  obtain ⟨i, at1, dg1, fo1, i0, i1, hi, P1⟩ := draw_ok (T := T ++ C4) P (by omega) (many := 9) (by decide) (by decide)
  obtain ⟨j, at2, dg2, fo2, j0, j1, hj, P2⟩ := draw_ok (T := T ++ C4) P1 (by omega) (many := 9) (by decide) (by decide)
  obtain ⟨k, at3, dg3, fo3, k0, k1, hk, P3⟩ := draw_ok (T := T ++ C4) P2 (by omega) (many := 9) (by decide) (by decide)
  let rg : List (Option SV) := [some (.v (.ref 0)), some (.v (.lst (L14 T.length))), none]
  have turn : ∀ {p q : Cell} {z x : Int}, drawF [.ref 0, .int 9] (p :: (T ++ C4)) = .ok (.int x) (q :: (T ++ C4)) → compF [2] (.v 2) (fun e3 => toD (ev G2 .yes e3)) (fun e4 => toD (ev G2 (.call 2 (.cons (.var 0) (.cons (.int 9) .nil))) e4)) (.int z) ⟨rg, p :: (T ++ C4)⟩ = .ok (some (.int x)) ⟨rg, q :: (T ++ C4)⟩ := fun {p q z x} h => by
    let e3 : Ev.Env := ⟨[some (.v (.ref 0)), some (.v (.lst (L14 T.length))), some (.v (.int z))], p :: (T ++ C4)⟩
    exact (fYes (e3 := e3) (e5 := ⟨e3.r, q :: (T ++ C4)⟩) rfl (dV (bCall (f := f2) (ds := [.ref 0, .int 9]) (e1 := e3) (bCons (dV (bVar rfl)) (bCons rfl bNil)) (by kernel_rfl) h))).trans rfl
  have comp : ev G2 (.comp [2] (.v 2) (.rng (.int 0) (.int 3)) .yes (.call 2 (.cons (.var 0) (.cons (.int 9) .nil)))) ⟨rg, penC cs at_ dg ct fo :: (T ++ C4)⟩ = .ok (.ol [.int i, .int j, .int k]) ⟨rg, penC cs at3 dg3 (ct + 1 + 1 + 1) fo3 :: (T ++ C4)⟩ :=
    (bComp (xs := [.int 0, .int 1, .int 2]) (e1 := ⟨rg, penC cs at_ dg ct fo :: (T ++ C4)⟩) (by kernel_rfl) (by decide) ((cCons (turn hi)).trans ((cCons (turn hj)).trans ((cCons (turn hk)).trans cNil)))).trans rfl
  let T5 : Store := T ++ (C4 ++ [.lst [.int i, .int j, .int k]])
  have e5 : (penC cs at3 dg3 (ct + 1 + 1 + 1) fo3 :: (T ++ C4)) ++ [Cell.lst [.int i, .int j, .int k]] = penC cs at3 dg3 (ct + 1 + 1 + 1) fo3 :: T5 := by simp [T5]
  have l5 : (penC cs at3 dg3 (ct + 1 + 1 + 1) fo3 :: (T ++ C4)).length = T.length + 5 := by simp [C4]
  have add : ev G2 (.bin .add (.var 1) (.disp (.cons (.toc (.comp [2] (.v 2) (.rng (.int 0) (.int 3)) .yes (.call 2 (.cons (.var 0) (.cons (.int 9) .nil))))) .nil))) ⟨rg, penC cs at_ dg ct fo :: (T ++ C4)⟩ = .ok (.ol (L14 T.length ++ [.ref (T.length + 5)])) ⟨rg, penC cs at3 dg3 (ct + 1 + 1 + 1) fo3 :: T5⟩ := by
    refine bBin (d1 := .lst (L14 T.length)) (d2 := .lst [.ref (T.length + 5)]) (e1 := ⟨rg, penC cs at_ dg ct fo :: (T ++ C4)⟩) (dV (bVar rfl)) (dOf (sv := .ol [.ref (T.length + 5)]) (bDisp (ds := [.ref (T.length + 5)]) (bCons ((dV (bToc comp)).trans ?_) bNil) (by simp [lim])) rfl) ?_
    · show Res.ok (D.ref (penC cs at3 dg3 (ct + 1 + 1 + 1) fo3 :: (T ++ C4)).length) (⟨rg, (penC cs at3 dg3 (ct + 1 + 1 + 1) fo3 :: (T ++ C4)) ++ [Cell.lst [.int i, .int j, .int k]]⟩ : Ev.Env) = _
      rw [e5, l5]
    · exact add_l (by simp [L14, lim])
  obtain ⟨m, x, at4, dg4, fo4, hx, hp, P4⟩ := pick_ok (T := T5) P3 (by omega) (xs := L14 T.length ++ [.ref (T.length + 5)]) (by simp [L14]) (by simp [L14, lim])
  refine ⟨x, at4, dg4, fo4, C4 ++ [.lst [.int i, .int j, .int k]], ?_, by rw [show ct + 4 = ct + 1 + 1 + 1 + 1 from by omega]; exact P4, val_at rfl i0 i1 j0 j1 k0 k1 hx⟩
  have e6 : ct + 4 = ct + 1 + 1 + 1 + 1 := by omega
  rw [e6]
  let e7 : Ev.Env := ⟨rg, penC cs at3 dg3 (ct + 1 + 1 + 1) fo3 :: T5⟩
  let e8 : Ev.Env := ⟨rg, penC cs at4 dg4 (ct + 1 + 1 + 1 + 1) fo4 :: T5⟩
  have k1 : ev G2 (.cons (.var 0) (.cons (.bin .add (.var 1) (.disp (.cons (.toc (.comp [2] (.v 2) (.rng (.int 0) (.int 3)) .yes (.call 2 (.cons (.var 0) (.cons (.int 9) .nil))))) .nil))) .nil)) ⟨rg, penC cs at_ dg ct fo :: (T ++ C4)⟩ = .ok (.v (.tup [.ref 0, .lst (L14 T.length ++ [.ref (T.length + 5)])])) e7 := bCons (e1 := ⟨rg, penC cs at_ dg ct fo :: (T ++ C4)⟩) (dV (bVar rfl)) (bCons (e1 := e7) (dOf add rfl) bNil)
  have k2 : G2[5]? = some f5 := by kernel_rfl
  have k3 : ev G2 (.call 5 (.cons (.var 0) (.cons (.bin .add (.var 1) (.disp (.cons (.toc (.comp [2] (.v 2) (.rng (.int 0) (.int 3)) .yes (.call 2 (.cons (.var 0) (.cons (.int 9) .nil))))) .nil))) .nil))) ⟨rg, penC cs at_ dg ct fo :: (T ++ C4)⟩ = .ok (.v x) e8 := bCall k1 k2 hp
  have k4 : evS G2 (.seq (.ret (.call 5 (.cons (.var 0) (.cons (.bin .add (.var 1) (.disp (.cons (.toc (.comp [2] (.v 2) (.rng (.int 0) (.int 3)) .yes (.call 2 (.cons (.var 0) (.cons (.int 9) .nil))))) .nil))) .nil)))) .skip) ⟨rg, penC cs at_ dg ct fo :: (T ++ C4)⟩ = .ok (.rt x) e8 := sSeqR (sRet (dV k3))
  have s3 : evS G2 b37 e0 = .ok (.rt x) e8 := by
    unfold b37
    rw [s1]
    exact k4
  show finS (evS G2 b37 e0) = _
  rw [s3]
  rfl
end Lw

set_option Elab.async false
set_option linter.all false
set_option maxRecDepth 100000
set_option maxHeartbeats 0
namespace Lw
open PySem Ev
def rr (sc v2 a b c d rows x8 x9 x10 x11 x12 x13 x14 x15 x16 x17 x18 x19 x20 : Option SV) : List (Option SV) := [sc, some (.v (.ref 0)), v2, a, b, c, d, rows, x8, x9, x10, x11, x12, x13, x14, x15, x16, x17, x18, x19, x20]
/-- the values handed on -/
theorem hand_ok {v : D} {T : Store} (h : VOk v T) {pc : Cell} {sc v2 a b c d rows x8 x9 x10 x11 x12 x13 x14 x15 x16 x17 x18 x19 : Option SV} : ∃ x, Sv x ∧ toD (ev G4 (.ite (.isi (.var 20) [.list] []) (.bi .list (.cons (.var 20) .nil)) (.var 20)) ⟨rr sc v2 a b c d rows x8 x9 x10 x11 x12 x13 x14 x15 x16 x17 x18 x19 (some (.v v)), pc :: T⟩) = .ok x ⟨rr sc v2 a b c d rows x8 x9 x10 x11 x12 x13 x14 x15 x16 x17 x18 x19 (some (.v v)), pc :: T⟩ := by
  rcases h.ok with ⟨h1, h2⟩ | ⟨n, xs, rfl, h1, h2, _⟩
  · refine ⟨v, h1, ?_⟩
    have g := h1.gd
    cases v <;> first | (cases h2; done) | (cases g; done) | kernel_rfl
  · refine ⟨.lst xs, h2, ?_⟩
    let e : Ev.Env := ⟨rr sc v2 a b c d rows x8 x9 x10 x11 x12 x13 x14 x15 x16 x17 x18 x19 (some (.v (.ref (n + 1)))), pc :: T⟩
    have hs : (pc :: T)[n + 1]? = some (.lst xs) := h1
    have t : toD (ev G4 (.isi (.var 20) [.list] []) e) = .ok (.bl true) e := dV (bIsi (d1 := .ref (n + 1)) (e1 := e) (dV (bVar rfl)) (by
      show (tyOf (.ref (n + 1)) (pc :: T)).bind _ = _
      rw [tyOf_lst hs]; rfl))
    have u : ev G4 (.bi .list (.cons (.var 20) .nil)) e = .ok (.ol xs) e := bBi (ds := [.ref (n + 1)]) (e1 := e) (bCons (dV (bVar rfl)) bNil) (by
      show (cellL (.ref (n + 1)) (pc :: T)).map SV.ol = _
      rw [cellL_of hs]; rfl)
    exact (congrArg toD (bIteT t)).trans (dOf u rfl)
/-- copies of what was handed in -/
theorem comp4 {us : List D} (hu : ∀ x ∈ us, Gd x = true) : ∀ {S : Store} {acc : List D} {sc v2 a b c d rows x8 x9 x10 x11 x12 x13 x14 x15 x16 x17 x18 x19 : Option SV},
    compLoop (compF [20] (.v 20) (fun e3 => toD (ev G4 .yes e3)) (fun e4 => toD (ev G4 (.call 4 (.cons (.var 20) .nil)) e4))) us ⟨rr sc v2 a b c d rows x8 x9 x10 x11 x12 x13 x14 x15 x16 x17 x18 x19 none, S⟩ acc = .ok (acc ++ us.map cpD) ⟨rr sc v2 a b c d rows x8 x9 x10 x11 x12 x13 x14 x15 x16 x17 x18 x19 none, S⟩ := by
  induction us with
  | nil => intros; rw [List.map_nil, List.append_nil]; rfl
  | cons x us ih =>
    intro S acc sc v2 a b c d rows x8 x9 x10 x11 x12 x13 x14 x15 x16 x17 x18 x19
    let e3 : Ev.Env := ⟨rr sc v2 a b c d rows x8 x9 x10 x11 x12 x13 x14 x15 x16 x17 x18 x19 (some (.v x)), S⟩
    rw [cCons (d := cpD x) (e1 := ⟨rr sc v2 a b c d rows x8 x9 x10 x11 x12 x13 x14 x15 x16 x17 x18 x19 none, S⟩) ((fYes (e3 := e3) (e5 := e3) rfl (dV (bCall (f := f4) (ds := [x]) (e1 := e3) (bCons (dV (bVar rfl)) bNil) (by kernel_rfl) (cp4_ok (hu x List.mem_cons_self) S)))).trans rfl), ih fun y hy => hu y (List.mem_cons_of_mem _ hy)]
    rw [List.map_cons, List.append_assoc]; rfl
/-- a row is looked at -/
theorem look1 {n m : Nat} {us : List D} (hu : ∀ x ∈ us, Sv x) (hl : us.length ≤ 10) {S : Store} {c : Nat} {fs : List PySem.Str} {vs : List D} (hc : c < 41) (h1 : S[n]? = some (.ins c fs vs)) (h2 : S[n + 1]? = some (.ins c fs vs)) {sc v2 a b c' d rows x8 x9 x10 x11 x12 x13 x14 x15 x16 x17 x18 x19 : Option SV} :
    ∃ z, (Res.opt (asgT (.tup (.cons (.v 9) (.cons (.v 10) (.cons (.v 11) (.cons (.v 12) (.cons (.v 13) (.cons (.v 14) .nil))))))) (rowD n (us.map cpD) us) ⟨rr sc v2 a b c' d rows x8 x9 x10 x11 x12 x13 x14 x15 x16 x17 x18 x19 none, S⟩) (⟨rr sc v2 a b c' d rows x8 x9 x10 x11 x12 x13 x14 x15 x16 x17 x18 x19 none, S⟩ : Ev.Env)).bind (fun e3 _ => evS G4 (.seq (.asg (.v 15) (.bi .repr (.cons (.comp [20] (.v 20) (.var 14) .yes (.call 4 (.cons (.var 20) .nil))) .nil))) (.seq (.ite (.or (.cmp .isnot (.var 11) (.bl true)) (.or (.cmp .ne (.bi .repr (.cons (.var 12) .nil)) (.var 15)) (.or (.cmp .ne (.bi .repr (.cons (.var 13) .nil)) (.var 15)) (.or (.not (.same false (.var 9) (.var 9) allc)) (.same false (.var 9) (.var 10) allc))))) (.seq (.ret (.bl false)) .skip) .skip) .skip)) e3) =
      .ok .nx ⟨rr sc v2 a b c' d rows x8 (some (.v (.ref n))) (some (.v (.ref (n + 1)))) (some (.v (.bl true))) (some (.v (.lst (us.map cpD)))) (some (.v (.lst (us.map cpD)))) (some (.v (.lst us))) z x16 x17 x18 x19 none, S⟩ := by
  obtain ⟨z, hz, zo⟩ := repr_l (us := us.map cpD) (fun x hx => by
    obtain ⟨y, hy, rfl⟩ := List.mem_map.mp hx
    exact (hu y hy).r2) (by rw [List.length_map]; exact hl)
  let e3 : Ev.Env := ⟨rr sc v2 a b c' d rows x8 (some (.v (.ref n))) (some (.v (.ref (n + 1)))) (some (.v (.bl true))) (some (.v (.lst (us.map cpD)))) (some (.v (.lst (us.map cpD)))) (some (.v (.lst us))) x15 x16 x17 x18 x19 none, S⟩
  let e4 : Ev.Env := ⟨rr sc v2 a b c' d rows x8 (some (.v (.ref n))) (some (.v (.ref (n + 1)))) (some (.v (.bl true))) (some (.v (.lst (us.map cpD)))) (some (.v (.lst (us.map cpD)))) (some (.v (.lst us))) (some (.v (.str z))) x16 x17 x18 x19 none, S⟩
  refine ⟨some (.v (.str z)), ?_⟩
  show evS G4 (.seq (.asg (.v 15) _) _) e3 = .ok .nx e4
  have cp : ev G4 (.comp [20] (.v 20) (.var 14) .yes (.call 4 (.cons (.var 20) .nil))) e3 = .ok (.ol (us.map cpD)) e3 := (bComp (xs := us) (e1 := e3) (iL (bVar rfl)) (by unfold lim; omega) (comp4 fun x hx => (hu x hx).gd)).trans rfl
  have s1 : evS G4 (.asg (.v 15) (.bi .repr (.cons (.comp [20] (.v 20) (.var 14) .yes (.call 4 (.cons (.var 20) .nil))) .nil))) e3 = .ok .nx e4 := sAsg (d := .str z) (e1 := e3) (dV (bBi (ds := [.lst (us.map cpD)]) (e1 := e3) (bCons (dOf cp rfl) bNil) hz)) rfl
  have ne : cmpD .ne (.str z) (.str z) = some false := by
    show (eqD (.str z) (.str z)).map _ = _
    rw [eqD_str zo zo]; simp
  have mem : c ∈ allc := List.mem_range.mpr hc
  have t1 : toD (ev G4 (.cmp .isnot (.var 11) (.bl true)) e4) = .ok (.bl false) e4 := by kernel_rfl
  have t2 : toD (ev G4 (.cmp .ne (.bi .repr (.cons (.var 12) .nil)) (.var 15)) e4) = .ok (.bl false) e4 := dV (bCmp (d1 := .str z) (d2 := .str z) (e1 := e4) (dV (bBi (ds := [.lst (us.map cpD)]) (e1 := e4) (bCons (dV (bVar rfl)) bNil) hz)) (dV (bVar rfl)) ne)
  have t3 : toD (ev G4 (.cmp .ne (.bi .repr (.cons (.var 13) .nil)) (.var 15)) e4) = .ok (.bl false) e4 := dV (bCmp (d1 := .str z) (d2 := .str z) (e1 := e4) (dV (bBi (ds := [.lst (us.map cpD)]) (e1 := e4) (bCons (dV (bVar rfl)) bNil) hz)) (dV (bVar rfl)) ne)
  have t4 : toD (ev G4 (.not (.same false (.var 9) (.var 9) allc)) e4) = .ok (.bl false) e4 := dV (bNot (k := true) (dV ((bSame (d1 := .ref n) (d2 := .ref n) (e1 := e4) (k := true) (dV (bVar rfl)) (dV (bVar rfl)) ((sameD_of h1 h1 mem mem).trans (by simp))))))
  have t5 : toD (ev G4 (.same false (.var 9) (.var 10) allc) e4) = .ok (.bl false) e4 := dV ((bSame (d1 := .ref n) (d2 := .ref (n + 1)) (e1 := e4) (k := false) (dV (bVar rfl)) (dV (bVar rfl)) ((sameD_of h1 h2 mem mem).trans (by simp))))
  refine (sSeq s1).trans ((sSeq (sIteF (e1 := e4) ?_)).trans rfl)
  rw [show ev G4 (.or _ _) e4 = _ from bOrF t1, show ev G4 (.or _ _) e4 = _ from bOrF t2, show ev G4 (.or _ _) e4 = _ from bOrF t3, show ev G4 (.or _ _) e4 = _ from bOrF t4]
  exact t5
end Lw

set_option Elab.async false
set_option linter.all false
set_option maxRecDepth 100000
set_option maxHeartbeats 0
namespace Lw
open PySem Ev
/-- the rows, whatever the pen -/
structure Rws (Us : List (List D)) (b : Nat) (rows : List D) (T : Store) : Prop where
  row : ∀ (i : Nat) (r : D), rows[i]? = some r → ∃ us c fs, us ∈ Us ∧ c < 41 ∧ r = rowD (b + 2 * i + 1) (us.map cpD) us ∧ T[b + 2 * i]? = some (.ins c fs (us.map cpD)) ∧ T[b + 2 * i + 1]? = some (.ins c fs (us.map cpD))
theorem Inv.rws {Us : List (List D)} {b : Nat} {S0 : Store} {rows : List D} {p : Cell} {T : Store} (I : Inv Us (b + 1) S0 rows (p :: T)) : Rws Us b rows T := by
  refine ⟨fun i r h => ?_⟩
  obtain ⟨us, c, fs, h1, h2, h3, h4, h5⟩ := I.row i r h
  refine ⟨us, c, fs, h1, h2, by rw [h3, show b + 1 + 2 * i = b + 2 * i + 1 from by omega], ?_, ?_⟩
  · rw [show b + 1 + 2 * i = b + 2 * i + 1 from by omega] at h4; simpa using h4
  · rw [show b + 1 + 2 * i + 1 = b + 2 * i + 1 + 1 from by omega] at h5; simpa using h5
variable {cs : List Int}
def bodyP : Sm := (.seq (.asg (.v 17) (.idx (.idx (.var 7) (.bin .mod (.bi .int (.cons (.bin .add (.bin .add (.var 16) (.int 1)) (.call 2 (.cons (.var 1) (.cons (.bin .sub (.bi .len (.cons (.var 7) .nil)) (.int 1)) .nil)))) .nil)) (.bi .len (.cons (.var 7) .nil)))) (.int 0))) (.seq (.ite (.or (.same false (.idx (.idx (.var 7) (.var 16)) (.int 0)) (.var 17) allc) (.or (.same false (.var 17) (.idx (.idx (.var 7) (.var 16)) (.int 0)) allc) (.not (.same true (.idx (.idx (.var 7) (.var 16)) (.int 0)) (.var 17) allc)))) (.seq (.ret (.bl false)) .skip) .skip) .skip))
theorem row_ref {n : Nat} {us vs : List D} {e e1 : Ev.Env} {x : Ex} (h : toD (ev G4 x e) = .ok (rowD n vs us) e1) : toD (ev G4 (.idx x (.int 0)) e) = .ok (.ref n) e1 := dV (bIdx (d1 := rowD n vs us) (d2 := .int 0) (e1 := e1) (e2 := e1) h rfl (by kernel_rfl))
/-- another row is not the same -/
theorem pair_ok {at_ dg ct fo : Int} {T : Store} (P : PenOk cs at_ dg ct fo) (hc : ct ≤ 900000) {Us : List (List D)} {b : Nat} {rows : List D} (R : Rws Us b rows T) (hl : rows.length = 41) {k : Nat} (hk : k < 41) {sc v2 a b' c d x8 x9 x10 x11 x12 x13 x14 x15 x16 x17 x18 x19 x20 : Option SV} :
    ∃ x17' at2 dg2 fo2, (Res.opt (asgT (.v 16) (.int k) ⟨rr sc v2 a b' c d (some (.v (.lst rows))) x8 x9 x10 x11 x12 x13 x14 x15 x16 x17 x18 x19 x20, penC cs at_ dg ct fo :: T⟩) (⟨rr sc v2 a b' c d (some (.v (.lst rows))) x8 x9 x10 x11 x12 x13 x14 x15 x16 x17 x18 x19 x20, penC cs at_ dg ct fo :: T⟩ : Ev.Env)).bind (fun e3 _ => evS G4 bodyP e3) =
      .ok .nx ⟨rr sc v2 a b' c d (some (.v (.lst rows))) x8 x9 x10 x11 x12 x13 x14 x15 (some (.v (.int k))) x17' x18 x19 x20, penC cs at2 dg2 (ct + 1) fo2 :: T⟩ ∧ PenOk cs at2 dg2 (ct + 1) fo2 := by
  obtain ⟨q, at2, dg2, fo2, q0, q1, hq, P2⟩ := draw_ok (T := T) P (by omega) (many := 40) (by decide) (by decide)
  obtain ⟨m, rfl⟩ := Int.eq_ofNat_of_zero_le q0
  let j := (k + 1 + m) % 41
  have hj : j < 41 := Nat.mod_lt _ (by decide)
  have hne : j ≠ k := by show (k + 1 + m) % 41 ≠ k; omega
  have hjm : ((k : Int) + 1 + (m : Int)).fmod 41 = (j : Int) := by
    rw [Int.fmod_eq_emod_of_nonneg _ (by decide)]
    show _ = (((k + 1 + m) % 41 : Nat) : Int)
    omega
  obtain ⟨uj, cj, fj, _, cj41, ej, gj, _⟩ := R.row j rows[j] (List.getElem?_eq_getElem (by omega))
  obtain ⟨uk, ck, fk, _, ck41, ek, gk, _⟩ := R.row k rows[k] (List.getElem?_eq_getElem (by omega))
  let S2 : Store := penC cs at2 dg2 (ct + 1) fo2 :: T
  let e3 : Ev.Env := ⟨rr sc v2 a b' c d (some (.v (.lst rows))) x8 x9 x10 x11 x12 x13 x14 x15 (some (.v (.int k))) x17 x18 x19 x20, penC cs at_ dg ct fo :: T⟩
  let e4 : Ev.Env := ⟨rr sc v2 a b' c d (some (.v (.lst rows))) x8 x9 x10 x11 x12 x13 x14 x15 (some (.v (.int k))) x17 x18 x19 x20, S2⟩
  let e5 : Ev.Env := ⟨rr sc v2 a b' c d (some (.v (.lst rows))) x8 x9 x10 x11 x12 x13 x14 x15 (some (.v (.int k))) (some (.v (.ref (b + 2 * j + 1)))) x18 x19 x20, S2⟩
  have rk : ∀ {e : Ev.Env}, e.get 7 = some (.v (.lst rows)) → e.get 16 = some (.v (.int k)) → toD (ev G4 (.idx (.var 7) (.var 16)) e) = .ok (rowD (b + 2 * k + 1) (uk.map cpD) uk) e := fun {e} h7 h16 =>
    dV (bIdx (d1 := .lst rows) (d2 := .int k) (e1 := e) (e2 := e) (dV (bVar h7)) (dV (bVar h16)) (by
      show L2.atI rows k = _
      rw [L2.atI_nat (List.getElem?_eq_getElem (by omega)), ek]))
  have len3 : ∀ {e : Ev.Env}, e.get 7 = some (.v (.lst rows)) → toD (ev G4 (.bi .len (.cons (.var 7) .nil)) e) = .ok (.int 41) e := fun {e} h7 =>
    dV (bBi (ds := [.lst rows]) (e1 := e) (bCons (dV (bVar h7)) bNil) (by
      show some (SV.v (.int (rows.length : Nat))) = _
      rw [hl]; rfl))
  have s1 : evS G4 (.asg (.v 17) (.idx (.idx (.var 7) (.bin .mod (.bi .int (.cons (.bin .add (.bin .add (.var 16) (.int 1)) (.call 2 (.cons (.var 1) (.cons (.bin .sub (.bi .len (.cons (.var 7) .nil)) (.int 1)) .nil)))) .nil)) (.bi .len (.cons (.var 7) .nil)))) (.int 0))) e3 = .ok .nx e5 := by
    refine sAsg (d := .ref (b + 2 * j + 1)) (e1 := e4) (row_ref (vs := uj.map cpD) (us := uj) ?_) rfl
    refine dV (bIdx (d1 := .lst rows) (d2 := .int j) (e1 := e3) (e2 := e4) (dV (bVar rfl)) ?_ (by
      show L2.atI rows j = _
      rw [L2.atI_nat (List.getElem?_eq_getElem (by omega)), ej]))
    refine dV (bBin (d1 := .int ((k : Int) + 1 + m)) (d2 := .int 41) (e1 := e4) (e2 := e4) (dV (bBi (ds := [.int ((k : Int) + 1 + m)]) (e1 := e4) (bCons (dV (bBin (d1 := .int ((k : Int) + 1)) (d2 := .int m) (e1 := e3) (e2 := e4) (by kernel_rfl) (dV (bCall (f := f2) (ds := [.ref 0, .int 40]) (e1 := e3) (bCons (dV (bVar rfl)) (bCons (dV (bBin (d1 := .int 41) (d2 := .int 1) (e1 := e3) (e2 := e3) (len3 rfl) rfl (by kernel_rfl))) bNil)) (by kernel_rfl) hq)) (by kernel_rfl))) bNil) (by kernel_rfl))) (len3 rfl) ?_)
    rw [mod_i _ (by decide), hjm]
  have hjs : S2[b + 2 * j + 1]? = some (.ins cj fj (uj.map cpD)) := gj
  have hks : S2[b + 2 * k + 1]? = some (.ins ck fk (uk.map cpD)) := gk
  have mj : cj ∈ allc := List.mem_range.mpr cj41
  have mk : ck ∈ allc := List.mem_range.mpr ck41
  have vk : toD (ev G4 (.idx (.idx (.var 7) (.var 16)) (.int 0)) e5) = .ok (.ref (b + 2 * k + 1)) e5 := row_ref (rk rfl rfl)
  have d1 : decide (b + 2 * k + 1 = b + 2 * j + 1) = false := decide_eq_false (by omega)
  have d2 : decide (b + 2 * j + 1 = b + 2 * k + 1) = false := decide_eq_false (by omega)
  have t1 : toD (ev G4 (.same false (.idx (.idx (.var 7) (.var 16)) (.int 0)) (.var 17) allc) e5) = .ok (.bl false) e5 := dV (bSame (d1 := .ref (b + 2 * k + 1)) (d2 := .ref (b + 2 * j + 1)) (e1 := e5) (k := false) vk (dV (bVar rfl)) ((sameD_of hks hjs mk mj).trans (by rw [d1])))
  have t2 : toD (ev G4 (.same false (.var 17) (.idx (.idx (.var 7) (.var 16)) (.int 0)) allc) e5) = .ok (.bl false) e5 := dV (bSame (d1 := .ref (b + 2 * j + 1)) (d2 := .ref (b + 2 * k + 1)) (e1 := e5) (k := false) (dV (bVar rfl)) vk ((sameD_of hjs hks mj mk).trans (by rw [d2])))
  have t3 : toD (ev G4 (.not (.same true (.idx (.idx (.var 7) (.var 16)) (.int 0)) (.var 17) allc)) e5) = .ok (.bl false) e5 := dV (bNot (k := true) (dV (bSame (d1 := .ref (b + 2 * k + 1)) (d2 := .ref (b + 2 * j + 1)) (e1 := e5) (k := false) vk (dV (bVar rfl)) ((sameD_of hks hjs mk mj).trans (by rw [d1])))))
  refine ⟨some (.v (.ref (b + 2 * j + 1))), at2, dg2, fo2, ?_, P2⟩
  show evS G4 bodyP e3 = .ok .nx e5
  refine (sSeq s1).trans ((sSeq (sIteF (e1 := e5) ?_)).trans rfl)
  rw [show ev G4 (.or _ _) e5 = _ from bOrF t1, show ev G4 (.or _ _) e5 = _ from bOrF t2]
  exact t3
end Lw

set_option Elab.async false
set_option linter.all false
set_option maxRecDepth 100000
set_option maxHeartbeats 0
namespace Lw
open PySem Ev
def valsE : Ex := .comp [16] (.v 16) (.rng (.int 0) (.int 4)) .yes (.call 37 (.cons (.var 1) .nil))
def handE : Ex := .comp [20] (.v 20) (.var 2) .yes (.ite (.isi (.var 20) [.list] []) (.bi .list (.cons (.var 20) .nil)) (.var 20))
variable {cs : List Int} {sc : Option SV}
/-- four values -/
theorem vals_ok {at_ dg ct fo : Int} (P : PenOk cs at_ dg ct fo) (hc : ct ≤ 1000) : ∃ v0 v1 v2 v3 at2 dg2 fo2 T, ev G4 valsE ⟨rr sc none none none none none none none none none none none none none none none none none none none, [penC cs at_ dg ct fo]⟩ = .ok (.ol [v0, v1, v2, v3]) ⟨rr sc none none none none none none none none none none none none none none none none none none none, penC cs at2 dg2 (ct + 16) fo2 :: T⟩ ∧ PenOk cs at2 dg2 (ct + 16) fo2 ∧ VOk v0 T ∧ VOk v1 T ∧ VOk v2 T ∧ VOk v3 T := by
  obtain ⟨v0, a0, d0, g0, T0, h0, P0, o0⟩ := value_ok (T := []) P (by omega)
  obtain ⟨v1, a1, d1, g1, T1, h1, P1, o1⟩ := value_ok (T := [] ++ T0) P0 (by omega)
  obtain ⟨v2, a2, d2, g2, T2, h2, P2, o2⟩ := value_ok (T := [] ++ T0 ++ T1) P1 (by omega)
  obtain ⟨v3, a3, d3, g3, T3, h3, P3, o3⟩ := value_ok (T := [] ++ T0 ++ T1 ++ T2) P2 (by omega)
  have turn : ∀ {S S' : Store} {z : Int} {v : D}, f37 [.ref 0] S = .ok v S' → compF [16] (.v 16) (fun e3 => toD (ev G4 .yes e3)) (fun e4 => toD (ev G4 (.call 37 (.cons (.var 1) .nil)) e4)) (.int z) ⟨rr sc none none none none none none none none none none none none none none none none none none none, S⟩ = .ok (some v) ⟨rr sc none none none none none none none none none none none none none none none none none none none, S'⟩ := fun {S S' z v} h => by
    let e3 : Ev.Env := ⟨rr sc none none none none none none none none none none none none none none (some (.v (.int z))) none none none none, S⟩
    have g : G4[37]? = some f37 := by kernel_rfl
    exact (fYes (e3 := e3) (e5 := ⟨e3.r, S'⟩) rfl (dV (bCall (f := f37) (ds := [.ref 0]) (e1 := e3) (bCons (dV (bVar rfl)) bNil) g h))).trans rfl
  refine ⟨v0, v1, v2, v3, a3, d3, g3, [] ++ T0 ++ T1 ++ T2 ++ T3, ?_, by rw [show ct + 16 = ct + 4 + 4 + 4 + 4 from by omega]; exact P3, ((o0.mono T1).mono T2).mono T3, (o1.mono T2).mono T3, o2.mono T3, o3⟩
  rw [show ct + 16 = ct + 4 + 4 + 4 + 4 from by omega]
  exact (bComp (xs := [.int 0, .int 1, .int 2, .int 3]) (e1 := ⟨rr sc none none none none none none none none none none none none none none none none none none none, [penC cs at_ dg ct fo]⟩) (by kernel_rfl) (by decide) ((cCons (turn h0)).trans ((cCons (turn h1)).trans ((cCons (turn h2)).trans ((cCons (turn h3)).trans cNil))))).trans rfl
/-- handed on -/
theorem hands_ok {v0 v1 v2 v3 : D} {T : Store} (o0 : VOk v0 T) (o1 : VOk v1 T) (o2 : VOk v2 T) (o3 : VOk v3 T) {pc : Cell} : ∃ a b c d, Sv a ∧ Sv b ∧ Sv c ∧ Sv d ∧ evS G4 (.asg (.lst (.cons (.v 3) (.cons (.v 4) (.cons (.v 5) (.cons (.v 6) .nil))))) handE) ⟨rr sc (some (.ol [v0, v1, v2, v3])) none none none none none none none none none none none none none none none none none none, pc :: T⟩ =
    .ok .nx ⟨rr sc (some (.v (.lst [v0, v1, v2, v3]))) (some (.v a)) (some (.v b)) (some (.v c)) (some (.v d)) none none none none none none none none none none none none none none, pc :: T⟩ := by
  let V : Option SV := some (.v (.lst [v0, v1, v2, v3]))
  let e1 : Ev.Env := ⟨rr sc V none none none none none none none none none none none none none none none none none none, pc :: T⟩
  have turn : ∀ {v : D}, VOk v T → ∃ x, Sv x ∧ compF [20] (.v 20) (fun e3 => toD (ev G4 .yes e3)) (fun e4 => toD (ev G4 (.ite (.isi (.var 20) [.list] []) (.bi .list (.cons (.var 20) .nil)) (.var 20)) e4)) v e1 = .ok (some x) e1 := fun {v} h => by
    obtain ⟨x, sx, hx⟩ := hand_ok (sc := sc) (v2 := V) (a := none) (b := none) (c := none) (d := none) (rows := none) (x8 := none) (x9 := none) (x10 := none) (x11 := none) (x12 := none) (x13 := none) (x14 := none) (x15 := none) (x16 := none) (x17 := none) (x18 := none) (x19 := none) h (pc := pc)
    exact ⟨x, sx, (fYes (e3 := ⟨rr sc V none none none none none none none none none none none none none none none none none (some (.v v)), pc :: T⟩) rfl hx).trans rfl⟩
  obtain ⟨a, sa, ha⟩ := turn o0
  obtain ⟨b, sb, hb⟩ := turn o1
  obtain ⟨c, sc', hc⟩ := turn o2
  obtain ⟨d, sd, hd⟩ := turn o3
  refine ⟨a, b, c, d, sa, sb, sc', sd, ?_⟩
  have k : ev G4 handE ⟨rr sc (some (.ol [v0, v1, v2, v3])) none none none none none none none none none none none none none none none none none none, pc :: T⟩ = .ok (.ol [a, b, c, d]) e1 :=
    (bComp (xs := [v0, v1, v2, v3]) (e1 := e1) (iL ((bVarO (xs := [v0, v1, v2, v3]) rfl).trans rfl)) (by simp [lim]) ((cCons ha).trans ((cCons hb).trans ((cCons hc).trans ((cCons hd).trans cNil))))).trans rfl
  exact sAsg (d := .lst [a, b, c, d]) (e1 := e1) (dOf k rfl) rfl
end Lw

set_option Elab.async false
set_option linter.all false
set_option maxRecDepth 100000
set_option maxHeartbeats 0
namespace Lw
open PySem Ev
theorem fCons {f : D → Ev.Env → Res Ev.Env Fl} {x : D} {xs : List D} {e e1 : Ev.Env} (h : f x e = .ok .nx e1) : forLoop f (x :: xs) e = forLoop f xs e1 := by
  show (f x e).bind _ = _
  rw [h]; rfl
def UsF (a b c : D) : List (List D) := [[], [a], [a, b], [a, b, c]]
variable {cs : List Int} {sc : Option SV}
def mkE : Sm := .for_ (.v 8) (.disp (.cons (.call 38 (.cons (.var 3) (.cons (.var 4) (.cons (.var 5) (.cons (.var 6) .nil))))) (.cons (.call 39 (.cons (.var 3) (.cons (.var 4) (.cons (.var 5) (.cons (.var 6) .nil))))) (.cons (.call 40 (.cons (.var 3) (.cons (.var 4) (.cons (.var 5) (.cons (.var 6) .nil))))) .nil)))) (.seq (.asg (.v 7) (.bin .add (.var 7) (.var 8))) .skip)
theorem rows_ok {a b c d : D} (ha : Gd a = true) (hb : Gd b = true) (hc : Gd c = true) {V : Option SV} {pc : Cell} {T : Store} : ∃ rows T' x8, rows.length = 41 ∧ Rws (UsF a b c) T.length rows (T ++ T') ∧ ∀ rest, evS G4 (.seq (.asg (.v 7) (.call 3 .nil)) (.seq mkE rest)) ⟨rr sc V (some (.v a)) (some (.v b)) (some (.v c)) (some (.v d)) none none none none none none none none none none none none none none, pc :: T⟩ =
    evS G4 rest ⟨rr sc V (some (.v a)) (some (.v b)) (some (.v c)) (some (.v d)) (some (.v (.lst rows))) x8 none none none none none none none none none none none none, pc :: (T ++ T')⟩ := by
  obtain ⟨r0, S0, h0, l0, I0⟩ := made_0 (Us := UsF a b c) (by simp [UsF]) (pc :: T)
  obtain ⟨ra, S1, h1, l1, I1⟩ := made_a (d := d) ha hb hc (Us := UsF a b c) (by simp [UsF]) (by simp [UsF]) (by simp [UsF]) S0
  obtain ⟨rb, S2, h2, l2, I2⟩ := made_b (d := d) ha hb hc (Us := UsF a b c) (by simp [UsF]) (by simp [UsF]) (by simp [UsF]) S1
  obtain ⟨rc, S3, h3, l3, I3⟩ := made_c (d := d) ha hb hc (Us := UsF a b c) (by simp [UsF]) (by simp [UsF]) (by simp [UsF]) S2
  have I := ((I0.app I1).app I2).app I3
  obtain ⟨T', hT⟩ := I.pre
  have hT' : S3 = pc :: (T ++ T') := hT
  subst hT'
  let E : List D → Option SV → Store → Ev.Env := fun rows x8 S => ⟨rr sc V (some (.v a)) (some (.v b)) (some (.v c)) (some (.v d)) (some (.v (.lst rows))) x8 none none none none none none none none none none none none, S⟩
  have s1 : evS G4 (.asg (.v 7) (.call 3 .nil)) ⟨rr sc V (some (.v a)) (some (.v b)) (some (.v c)) (some (.v d)) none none none none none none none none none none none none none none, pc :: T⟩ = .ok .nx (E r0 none S0) := by
    have g : G4[3]? = some f3 := by kernel_rfl
    exact sAsg (d := .lst r0) (dV (bCall (f := f3) (ds := []) bNil g h0)) rfl
  have args : ∀ S, ev G4 (.cons (.var 3) (.cons (.var 4) (.cons (.var 5) (.cons (.var 6) .nil)))) (E r0 none S) = .ok (.v (.tup [a, b, c, d])) (E r0 none S) := fun S => bCons (dV (bVar rfl)) (bCons (dV (bVar rfl)) (bCons (dV (bVar rfl)) (bCons (dV (bVar rfl)) bNil)))
  have c1 : ev G4 (.call 38 (.cons (.var 3) (.cons (.var 4) (.cons (.var 5) (.cons (.var 6) .nil))))) (E r0 none S0) = .ok (.v (.lst ra)) (E r0 none S1) := by
    have g : G4[38]? = some f38 := by kernel_rfl
    exact bCall (args S0) g h1
  have c2 : ev G4 (.call 39 (.cons (.var 3) (.cons (.var 4) (.cons (.var 5) (.cons (.var 6) .nil))))) (E r0 none S1) = .ok (.v (.lst rb)) (E r0 none S2) := by
    have g : G4[39]? = some f39 := by kernel_rfl
    exact bCall (args S1) g h2
  have c3 : ev G4 (.call 40 (.cons (.var 3) (.cons (.var 4) (.cons (.var 5) (.cons (.var 6) .nil))))) (E r0 none S2) = .ok (.v (.lst rc)) (E r0 none (pc :: (T ++ T'))) := by
    have g : G4[40]? = some f40 := by kernel_rfl
    exact bCall (args S2) g h3
  have it := iO (bDisp (bCons (dV c1) (bCons (dV c2) (bCons (dV c3) bNil))) (by simp [lim]))
  have turn : ∀ (xs ys : List D) (x8 : Option SV), xs.length + ys.length ≤ 100 → (fun x e2 => (Res.opt (asgT (.v 8) x e2) e2).bind fun e3 _ => evS G4 (.seq (.asg (.v 7) (.bin .add (.var 7) (.var 8))) .skip) e3) (.lst ys) (E xs x8 (pc :: (T ++ T'))) = .ok .nx (E (xs ++ ys) (some (.v (.lst ys))) (pc :: (T ++ T'))) := fun xs ys x8 h => by
    let e3 : Ev.Env := E xs (some (.v (.lst ys))) (pc :: (T ++ T'))
    show evS G4 (.seq (.asg (.v 7) (.bin .add (.var 7) (.var 8))) .skip) e3 = _
    have k : ev G4 (.bin .add (.var 7) (.var 8)) e3 = .ok (.ol (xs ++ ys)) e3 := bBin (d1 := .lst xs) (d2 := .lst ys) (e1 := e3) (dV (bVar rfl)) (dV (bVar rfl)) (add_l (by unfold lim; omega))
    have k2 : evS G4 (.asg (.v 7) (.bin .add (.var 7) (.var 8))) e3 = .ok .nx (E (xs ++ ys) (some (.v (.lst ys))) (pc :: (T ++ T'))) := sAsg (d := .lst (xs ++ ys)) (e1 := e3) (dOf k rfl) rfl
    rw [sSeq k2]; rfl
  have s2 : evS G4 mkE (E r0 none S0) = .ok .nx (E (r0 ++ ra ++ rb ++ rc) (some (.v (.lst rc))) (pc :: (T ++ T'))) := by
    refine sFor it ?_
    rw [fCons (turn r0 ra none (by omega)), fCons (turn (r0 ++ ra) rb _ (by rw [List.length_append]; omega)), fCons (turn (r0 ++ ra ++ rb) rc _ (by rw [List.length_append, List.length_append]; omega))]
    rfl
  refine ⟨r0 ++ ra ++ rb ++ rc, T', some (.v (.lst rc)), by simp only [List.length_append]; omega, ?_, fun rest => ?_⟩
  · exact Inv.rws (b := T.length) I
  · rw [sSeq s1, sSeq s2]
def lookE : Sm := (.seq (.asg (.v 15) (.bi .repr (.cons (.comp [20] (.v 20) (.var 14) .yes (.call 4 (.cons (.var 20) .nil))) .nil))) (.seq (.ite (.or (.cmp .isnot (.var 11) (.bl true)) (.or (.cmp .ne (.bi .repr (.cons (.var 12) .nil)) (.var 15)) (.or (.cmp .ne (.bi .repr (.cons (.var 13) .nil)) (.var 15)) (.or (.not (.same false (.var 9) (.var 9) allc)) (.same false (.var 9) (.var 10) allc))))) (.seq (.ret (.bl false)) .skip) .skip) .skip))
def tgE : Tg := (.tup (.cons (.v 9) (.cons (.v 10) (.cons (.v 11) (.cons (.v 12) (.cons (.v 13) (.cons (.v 14) .nil)))))))
/-- all rows are looked at -/
theorem looks_ok {a b c : D} (sa : Sv a) (sb : Sv b) (sc' : Sv c) {T : Store} {bb : Nat} {rows : List D} (R : Rws (UsF a b c) bb rows T) {V A B C Dd x8 : Option SV} {pc : Cell} : ∃ x9 x10 x11 x12 x13 x14 x15, evS G4 (.for_ tgE (.var 7) lookE) ⟨rr sc V A B C Dd (some (.v (.lst rows))) x8 none none none none none none none none none none none none, pc :: T⟩ =
    .ok .nx ⟨rr sc V A B C Dd (some (.v (.lst rows))) x8 x9 x10 x11 x12 x13 x14 x15 none none none none none, pc :: T⟩ := by
  obtain ⟨e', h, x9, x10, x11, x12, x13, x14, x15, rfl⟩ := for_keep (k := 0) (xs := rows) (f := fun x e2 => (Res.opt (asgT tgE x e2) e2).bind fun e3 _ => evS G4 lookE e3)
    (fun _ e => ∃ x9 x10 x11 x12 x13 x14 x15, e = ⟨rr sc V A B C Dd (some (.v (.lst rows))) x8 x9 x10 x11 x12 x13 x14 x15 none none none none none, pc :: T⟩) (e := ⟨rr sc V A B C Dd (some (.v (.lst rows))) x8 none none none none none none none none none none none none, pc :: T⟩) ⟨none, none, none, none, none, none, none, rfl⟩ (by
      rintro i x e hx ⟨x9, x10, x11, x12, x13, x14, x15, rfl⟩
      obtain ⟨us, cc, fs, m, h41, rfl, g1, g2⟩ := R.row i x hx
      have hu : (∀ y ∈ us, Sv y) ∧ us.length ≤ 10 := by
        simp only [UsF, List.mem_cons, List.mem_nil_iff, or_false] at m
        rcases m with rfl | rfl | rfl | rfl
        · exact ⟨by simp, by simp⟩
        · exact ⟨by simpa using sa, by simp⟩
        · exact ⟨by simpa using ⟨sa, sb⟩, by simp⟩
        · exact ⟨by simpa using ⟨sa, sb, sc'⟩, by simp⟩
      obtain ⟨z, hz⟩ := look1 (m := 0) hu.1 hu.2 (S := pc :: T) (n := bb + 2 * i + 1) (fs := fs) (vs := us.map cpD) h41 g1 g2 (sc := sc) (v2 := V) (a := A) (b := B) (c' := C) (d := Dd) (rows := some (.v (.lst rows))) (x8 := x8) (x9 := x9) (x10 := x10) (x11 := x11) (x12 := x12) (x13 := x13) (x14 := x14) (x15 := x15) (x16 := none) (x17 := none) (x18 := none) (x19 := none)
      exact ⟨_, hz, _, _, _, _, _, _, _, rfl⟩)
  exact ⟨x9, x10, x11, x12, x13, x14, x15, sFor (iL (bVar rfl)) h⟩
/-- all pairs -/
theorem pairs_ok {at_ dg ct fo : Int} {T : Store} (P : PenOk cs at_ dg ct fo) (hc : ct ≤ 1000) {Us : List (List D)} {b : Nat} {rows : List D} (R : Rws Us b rows T) (hl : rows.length = 41) {v2 a b' c d x8 x9 x10 x11 x12 x13 x14 x15 : Option SV} :
    ∃ x16 x17 at2 dg2 ct2 fo2, evS G4 (.for_ (.v 16) (.rng (.int 0) (.bi .len (.cons (.var 7) .nil))) bodyP) ⟨rr sc v2 a b' c d (some (.v (.lst rows))) x8 x9 x10 x11 x12 x13 x14 x15 none none none none none, penC cs at_ dg ct fo :: T⟩ =
      .ok .nx ⟨rr sc v2 a b' c d (some (.v (.lst rows))) x8 x9 x10 x11 x12 x13 x14 x15 x16 x17 none none none, penC cs at2 dg2 ct2 fo2 :: T⟩ := by
  let e0 : Ev.Env := ⟨rr sc v2 a b' c d (some (.v (.lst rows))) x8 x9 x10 x11 x12 x13 x14 x15 none none none none none, penC cs at_ dg ct fo :: T⟩
  have it : itemsOf (ev G4 (.rng (.int 0) (.bi .len (.cons (.var 7) .nil))) e0) = .ok (rangeD 0 41) e0 := by
    have k : toD (ev G4 (.bi .len (.cons (.var 7) .nil)) e0) = .ok (.int 41) e0 := dV (bBi (ds := [.lst rows]) (e1 := e0) (bCons (dV (bVar rfl)) bNil) (by
      show some (SV.v (.int (rows.length : Nat))) = _
      rw [hl]; rfl))
    show itemsOf ((toD (ev G4 (.int 0) e0)).bind fun x e1 => (toD (ev G4 (.bi .len (.cons (.var 7) .nil)) e1)).bind _) = _
    rw [show toD (ev G4 (.int 0) e0) = .ok (.int 0) e0 from rfl, Res.bind_ok, k]
    kernel_rfl
  obtain ⟨e', h, x16, x17, at2, dg2, fo2, P2, e⟩ := for_keep (k := 0) (xs := rangeD 0 41) (f := fun x e2 => (Res.opt (asgT (.v 16) x e2) e2).bind fun e3 _ => evS G4 bodyP e3)
    (fun k e => ∃ x16 x17 at2 dg2 fo2, PenOk cs at2 dg2 (ct + k) fo2 ∧ e = ⟨rr sc v2 a b' c d (some (.v (.lst rows))) x8 x9 x10 x11 x12 x13 x14 x15 x16 x17 none none none, penC cs at2 dg2 (ct + k) fo2 :: T⟩) (e := e0) ⟨none, none, at_, dg, fo, by simpa using P, by simp [e0]⟩ (by
      rintro i x e hx ⟨x16, x17, at2, dg2, fo2, P2, rfl⟩
      unfold rangeD at hx
      rw [List.getElem?_map, Option.map_eq_some_iff] at hx
      obtain ⟨n, hn, rfl⟩ := hx
      have hn2 := List.getElem?_eq_some_iff.mp hn
      obtain ⟨hi, rfl⟩ := hn2
      rw [List.getElem_range]
      have hi : i < 41 := by simpa using hi
      obtain ⟨x17', at3, dg3, fo3, h3, P3⟩ := pair_ok (b' := b') P2 (by omega) R hl hi (sc := sc) (v2 := v2) (a := a) (c := c) (d := d) (x8 := x8) (x9 := x9) (x10 := x10) (x11 := x11) (x12 := x12) (x13 := x13) (x14 := x14) (x15 := x15) (x16 := x16) (x17 := x17) (x18 := none) (x19 := none) (x20 := none)
      have ec : ct + ((0 + i : Nat) : Int) + 1 = ct + ((0 + i + 1 : Nat) : Int) := by omega
      rw [ec] at h3 P3
      rw [show (0 : Int) + (i : Nat) = (i : Nat) from by omega]
      exact ⟨_, h3, some (.v (.int i)), x17', at3, dg3, fo3, P3, rfl⟩)
  subst e
  exact ⟨x16, x17, at2, dg2, _, fo2, sFor it h⟩
end Lw

set_option Elab.async false
set_option linter.all false
set_option maxRecDepth 100000
set_option maxHeartbeats 0
namespace Lw
open PySem Ev
variable {cs : List Int} {sc : Option SV}
theorem bNewS {G : List Fn} {c g : Nat} {fs : List PySem.Str} {A : Ex} {e : Ev.Env} {us vs : List D} {F : Fn} (h1 : ev G A e = .ok (.v (.tup us)) e) (hg : G[g]? = some F) (hF : F us e.s = .ok (.obj c fs vs) e.s) :
    toD (ev G (.toc (.newx c (some g) [] A)) e) = .ok (.ref e.s.length) ⟨e.r, e.s ++ [.ins c fs vs]⟩ := by
  have k : ev G (.newx c (some g) [] A) e = .ok (.oo c fs vs) e := by
    show (toA (ev G A e)).bind _ = _
    rw [aV h1]
    show (match G[g]? with
      | some f => (f us e.s).bind fun d s => (match d with
        | .obj c' ns vs => if c' = c then Res.ok (SV.oo c ns vs) (⟨e.r, s⟩ : Ev.Env) else .bad
        | _ => .bad)
      | none => .bad) = _
    rw [hg]
    show (F us e.s).bind _ = _
    rw [hF]
    exact if_pos rfl
  refine dV ?_
  show toCell (ev G (.newx c (some g) [] A) e) = _
  rw [k]; rfl
/-- what a value is kept as -/
theorem kept_ok {v : D} {T : Store} (h : VOk v T) (pc : Cell) : ∃ u, Sv u ∧ f15 [v] (pc :: T) = .ok (.obj 10 ["rows"] [cpD u]) (pc :: T) := by
  rcases h.ok with ⟨h1, h2⟩ | ⟨n, xs, rfl, h1, h2, _⟩
  · exact ⟨v, h1, mk1 (by kernel_rfl) h1.gd⟩
  · refine ⟨.lst xs, h2, ?_⟩
    have hs : (pc :: T)[n + 1]? = some (.lst xs) := h1
    have g : G1[0]? = some f0 := by kernel_rfl
    let e : Ev.Env := ⟨[some (.oo 10 [] []), some (.v (.ref (n + 1)))], pc :: T⟩
    have k : toD (ev G1 (.call 0 (.cons (.var 1) .nil)) e) = .ok (.tup xs) e := dV (bCall (f := f0) (ds := [.ref (n + 1)]) (e1 := e) (bCons (dV (bVar rfl)) bNil) g (cp_cell hs))
    show finI 10 (evI G1 10 b15 e) = _
    show finI 10 (evI G1 10 [("rows", .call 0 (.cons (.var 1) .nil))] e) = _
    rw [store_of (ns := []) (vs := []) k rfl (by simp) (by decide)]
    rfl
def endE : Sm := (.seq (.asg (.v 18) (.toc (.newx 10 (some 15) [] (.cons (.idx (.var 2) (.int 0)) .nil)))) (.seq (.asg (.v 19) (.bi .repr (.cons (.attr (.var 18) "rows" [10, 11, 12]) .nil))) (.seq (.ite (.isi (.idx (.var 2) (.int 0)) [.list] []) (.seq (.appc (.idx (.var 2) (.int 0)) (.int 7)) .skip) .skip) (.seq (.ret (.and (.cmp .eq (.bi .repr (.cons (.attr (.var 18) "rows" [10, 11, 12]) .nil)) (.var 19)) (.cmp .eq (.bi .len (.cons (.var 7) .nil)) (.int 41)))) .skip))))
theorem end_ok {v0 v1 v2 v3 : D} {T : Store} (o : VOk v0 T) {pc : Cell} {rows : List D} (hl : rows.length = 41) {a b' c d x8 x9 x10 x11 x12 x13 x14 x15 x16 x17 : Option SV} :
    ∃ e, evS G4 endE ⟨rr sc (some (.v (.lst [v0, v1, v2, v3]))) a b' c d (some (.v (.lst rows))) x8 x9 x10 x11 x12 x13 x14 x15 x16 x17 none none none, pc :: T⟩ = .ok (.rt (.bl true)) e := by
  obtain ⟨u, su, hk⟩ := kept_ok o pc
  obtain ⟨z, hz, zo⟩ := su.r2.repr
  let V : Option SV := some (.v (.lst [v0, v1, v2, v3]))
  let S1 : Store := (pc :: T) ++ [.ins 10 ["rows"] [cpD u]]
  let n : Nat := (pc :: T).length
  let E : Option SV → Option SV → Store → Ev.Env := fun x18 x19 S => ⟨rr sc V a b' c d (some (.v (.lst rows))) x8 x9 x10 x11 x12 x13 x14 x15 x16 x17 x18 x19 none, S⟩
  have v0at : ∀ {x18 x19 : Option SV} {S : Store}, toD (ev G4 (.idx (.var 2) (.int 0)) (E x18 x19 S)) = .ok v0 (E x18 x19 S) := fun {x18 x19 S} => dV (bIdx (d1 := .lst [v0, v1, v2, v3]) (d2 := .int 0) (e1 := E x18 x19 S) (e2 := E x18 x19 S) (dV (bVar rfl)) rfl (by kernel_rfl))
  have s1 : evS G4 (.asg (.v 18) (.toc (.newx 10 (some 15) [] (.cons (.idx (.var 2) (.int 0)) .nil)))) (E none none (pc :: T)) = .ok .nx (E (some (.v (.ref n))) none S1) := by
    have g : G4[15]? = some f15 := by kernel_rfl
    exact sAsg (d := .ref n) (bNewS (e := E none none (pc :: T)) (us := [v0]) (bCons v0at bNil) g hk) rfl
  have rep : ∀ {x19 : Option SV} {S : Store}, S[n]? = some (.ins 10 ["rows"] [cpD u]) → toD (ev G4 (.bi .repr (.cons (.attr (.var 18) "rows" [10, 11, 12]) .nil)) (E (some (.v (.ref n))) x19 S)) = .ok (.str z) (E (some (.v (.ref n))) x19 S) := fun {x19 S} h =>
    dV (bBi (ds := [cpD u]) (e1 := E (some (.v (.ref n))) x19 S) (bCons (at_ok (n := n) (c := 10) (fs := ["rows"]) (vs := [cpD u]) rfl h (by simp) (if_pos rfl)) bNil) hz)
  have n1 : S1[n]? = some (.ins 10 ["rows"] [cpD u]) := by
    show ((pc :: T) ++ [Cell.ins 10 ["rows"] [cpD u]])[(pc :: T).length]? = _
    rw [List.getElem?_append_right (Nat.le_refl _), Nat.sub_self]; rfl
  have s2 : evS G4 (.asg (.v 19) (.bi .repr (.cons (.attr (.var 18) "rows" [10, 11, 12]) .nil))) (E (some (.v (.ref n))) none S1) = .ok .nx (E (some (.v (.ref n))) (some (.v (.str z))) S1) := sAsg (d := .str z) (rep n1) rfl
  have s3 : ∃ S2 : Store, S2[n]? = some (.ins 10 ["rows"] [cpD u]) ∧ evS G4 (.ite (.isi (.idx (.var 2) (.int 0)) [.list] []) (.seq (.appc (.idx (.var 2) (.int 0)) (.int 7)) .skip) .skip) (E (some (.v (.ref n))) (some (.v (.str z))) S1) = .ok .nx (E (some (.v (.ref n))) (some (.v (.str z))) S2) := by
    let e := E (some (.v (.ref n))) (some (.v (.str z))) S1
    rcases o.ok with ⟨h1, h2⟩ | ⟨m, xs, rfl, h1, h2, h3⟩
    · refine ⟨S1, n1, ?_⟩
      have t : toD (ev G4 (.isi (.idx (.var 2) (.int 0)) [.list] []) e) = .ok (.bl false) e := by
        refine dV (bIsi (d1 := v0) (e1 := e) v0at ?_)
        have g := h1.gd
        cases v0 <;> first | (cases h2; done) | (cases g; done) | kernel_rfl
      rw [show evS G4 (.ite _ _ _) e = _ from sIteF t]; rfl
    · have hm : m < T.length := (List.getElem?_eq_some_iff.mp h1).1
      have hs : S1[m + 1]? = some (.lst xs) := by
        show ((pc :: T) ++ [Cell.ins 10 ["rows"] [cpD u]])[m + 1]? = _
        rw [List.getElem?_append_left (by rw [List.length_cons]; omega)]
        exact h1
      have t : toD (ev G4 (.isi (.idx (.var 2) (.int 0)) [.list] []) e) = .ok (.bl true) e := dV (bIsi (d1 := .ref (m + 1)) (e1 := e) v0at (by
        show (tyOf (.ref (m + 1)) S1).bind _ = _
        rw [tyOf_lst hs]; rfl))
      refine ⟨S1.set (m + 1) (.lst (xs ++ [.int 7])), ?_, ?_⟩
      · rw [List.getElem?_set_ne (by show m + 1 ≠ (pc :: T).length; rw [List.length_cons]; omega)]
        exact n1
      · rw [show evS G4 (.ite _ _ _) e = _ from sIteT t, sSeq (sAppc (e1 := e) (e2 := e) (d1 := .ref (m + 1)) (xs := xs) (d := .int 7) v0at (cellL_of hs) rfl (appD_of hs (by unfold lim; omega)))]
        rfl
  obtain ⟨S2, n2, s3⟩ := s3
  let e := E (some (.v (.ref n))) (some (.v (.str z))) S2
  have eq : cmpD .eq (.str z) (.str z) = some true := by
    show eqD (.str z) (.str z) = _
    rw [eqD_str zo zo]; simp
  have t1 : toD (ev G4 (.cmp .eq (.bi .repr (.cons (.attr (.var 18) "rows" [10, 11, 12]) .nil)) (.var 19)) e) = .ok (.bl true) e := dV (bCmp (d1 := .str z) (d2 := .str z) (e1 := e) (rep n2) (dV (bVar rfl)) eq)
  have t2 : toD (ev G4 (.cmp .eq (.bi .len (.cons (.var 7) .nil)) (.int 41)) e) = .ok (.bl true) e := by
    have k : toD (ev G4 (.bi .len (.cons (.var 7) .nil)) e) = .ok (.int 41) e := dV (bBi (ds := [.lst rows]) (e1 := e) (bCons (dV (bVar rfl)) bNil) (by
      show some (SV.v (.int (rows.length : Nat))) = _
      rw [hl]; rfl))
    exact dV (bCmp (d1 := .int 41) (d2 := .int 41) (e1 := e) k rfl (by kernel_rfl))
  refine ⟨e, ?_⟩
  show evS G4 endE (E none none (pc :: T)) = _
  unfold endE
  rw [sSeq s1, sSeq s2, sSeq s3, sSeqR (sRet ((congrArg toD (bAndT t1)).trans t2))]
/-- the law -/
theorem law_ok (ns : List Int) (hn : ns.length ≤ 63) : ∃ S, f41 [.lst (ns.map .int)] [] = .ok (.bl true) S := by
  obtain ⟨f, hp, P⟩ := pen_ok ns (by unfold lim; omega)
  let sc : Option SV := some (.v (.lst (ns.map .int)))
  obtain ⟨v0, v1, v2, v3, at2, dg2, fo2, T, hv, P2, o0, o1, o2, o3⟩ := vals_ok (sc := sc) P (by decide)
  obtain ⟨a, b, c, d, sa, sb, sc', sd, hh⟩ := hands_ok (sc := sc) o0 o1 o2 o3 (pc := penC ns at2 dg2 (0 + 16) fo2)
  obtain ⟨rows, T', x8, hl, R, hr⟩ := rows_ok (sc := sc) (d := d) sa.gd sb.gd sc'.gd (V := some (.v (.lst [v0, v1, v2, v3]))) (pc := penC ns at2 dg2 (0 + 16) fo2) (T := T)
  obtain ⟨x9, x10, x11, x12, x13, x14, x15, hL⟩ := looks_ok (sc := sc) sa sb sc' R (V := some (.v (.lst [v0, v1, v2, v3]))) (A := some (.v a)) (B := some (.v b)) (C := some (.v c)) (Dd := some (.v d)) (x8 := x8) (pc := penC ns at2 dg2 (0 + 16) fo2)
  obtain ⟨x16, x17, at3, dg3, ct3, fo3, hP⟩ := pairs_ok (sc := sc) P2 (by decide) R hl (v2 := some (.v (.lst [v0, v1, v2, v3]))) (a := some (.v a)) (b' := some (.v b)) (c := some (.v c)) (d := some (.v d)) (x8 := x8) (x9 := x9) (x10 := x10) (x11 := x11) (x12 := x12) (x13 := x13) (x14 := x14) (x15 := x15)
  obtain ⟨e, hE⟩ := end_ok (sc := sc) (o0.mono T') (pc := penC ns at3 dg3 ct3 fo3) hl (v1 := v1) (v2 := v2) (v3 := v3) (a := some (.v a)) (b' := some (.v b)) (c := some (.v c)) (d := some (.v d)) (x8 := x8) (x9 := x9) (x10 := x10) (x11 := x11) (x12 := x12) (x13 := x13) (x14 := x14) (x15 := x15) (x16 := x16) (x17 := x17)
  refine ⟨e.s, ?_⟩
  let e0 : Ev.Env := ⟨[sc, none, none, none, none, none, none, none, none, none, none, none, none, none, none, none, none, none, none, none, none], []⟩
  have s0 : evS G4 (.asg (.v 1) (.call 1 (.cons (.var 0) .nil))) e0 = .ok .nx ⟨rr sc none none none none none none none none none none none none none none none none none none none, [penC ns 0 0 0 f]⟩ := by
    have g : G4[1]? = some f1 := by kernel_rfl
    exact sAsg (d := .ref 0) (dV (bCall (f := f1) (ds := [.lst (ns.map .int)]) (e1 := e0) (bCons (dV (bVar rfl)) bNil) g hp)) rfl
  have s1 : evS G4 (.own 2 valsE) ⟨rr sc none none none none none none none none none none none none none none none none none none none, [penC ns 0 0 0 f]⟩ = .ok .nx ⟨rr sc (some (.ol [v0, v1, v2, v3])) none none none none none none none none none none none none none none none none none none, penC ns at2 dg2 (0 + 16) fo2 :: T⟩ := (sOwn hv (by show 2 < 21; decide)).trans rfl
  have all : evS G4 b41 e0 = .ok (.rt (.bl true)) e := by
    show evS G4 (.seq (.asg (.v 1) (.call 1 (.cons (.var 0) .nil))) (.seq (.own 2 valsE) (.seq (.asg (.lst (.cons (.v 3) (.cons (.v 4) (.cons (.v 5) (.cons (.v 6) .nil))))) handE) (.seq (.asg (.v 7) (.call 3 .nil)) (.seq mkE (.seq (.for_ tgE (.var 7) lookE) (.seq (.for_ (.v 16) (.rng (.int 0) (.bi .len (.cons (.var 7) .nil))) bodyP) endE))))))) e0 = _
    rw [sSeq s0, sSeq s1, sSeq hh, hr, sSeq hL, sSeq hP, hE]
  show finS (evS G4 b41 e0) = _
  rw [all]; rfl
end Lw

set_option Elab.async false
set_option linter.all false
set_option maxRecDepth 100000
set_option maxHeartbeats 0
namespace Lw
open PySem PySem.Spec PyProof.Rows L2 Ev
/-- what is known of the written part -/
structure Cq (K : PySem.W.Frag) (mg : PySem.Str → Option Value) (base : Heap) : Prop where
  KX : K.In base
  hns : base.Ns mainGlobals mg
  hs : He.SaysD dfa dfn K
  hx : exC tT K = true
theorem mkf_of {T : ClsT} {g c c0 : Nat} (h : (T.mkf.all fun q => decide (q.2 = g → q.1 = c0)) = true) (hm : (c, g) ∈ T.mkf) : c = c0 := of_decide_eq_true (List.all_eq_true.mp h _ hm) rfl
theorem mkf_no {T : ClsT} {g c : Nat} (h : (T.mkf.all fun q => decide (q.2 ≠ g)) = true) (hm : (c, g) ∈ T.mkf) : False := of_decide_eq_true (List.all_eq_true.mp h _ hm) rfl
section
variable {Pr : Program} {wo : World} {K : PySem.W.Frag} {mg : PySem.Str → Option Value} {base : Heap}
theorem bfree (q : Cq K mg base) : ∀ x ∈ bn, mg x = none := by
  intro x hx
  unfold bn at hx
  rcases List.mem_cons.mp hx with e | hx
  · rw [e]; exact He.free_ok q.KX q.hns (q.hs.fact 11 (f := .free "int") (by kernel_rfl))
  rcases List.mem_cons.mp hx with e | hx
  · rw [e]; exact He.free_ok q.KX q.hns (q.hs.fact 12 (f := .free "isinstance") (by kernel_rfl))
  rcases List.mem_cons.mp hx with e | hx
  · rw [e]; exact He.free_ok q.KX q.hns (q.hs.fact 13 (f := .free "len") (by kernel_rfl))
  rcases List.mem_cons.mp hx with e | hx
  · rw [e]; exact He.free_ok q.KX q.hns (q.hs.fact 14 (f := .free "list") (by kernel_rfl))
  rcases List.mem_cons.mp hx with e | hx
  · rw [e]; exact He.free_ok q.KX q.hns (q.hs.fact 15 (f := .free "range") (by kernel_rfl))
  rcases List.mem_cons.mp hx with e | hx
  · rw [e]; exact He.free_ok q.KX q.hns (q.hs.fact 16 (f := .free "repr") (by kernel_rfl))
  rcases List.mem_cons.mp hx with e | hx
  · rw [e]; exact He.free_ok q.KX q.hns (q.hs.fact 17 (f := .free "tuple") (by kernel_rfl))
  · cases hx
theorem st0 (q : Cq K mg base) : Stg Pr wo K mg base tT (gaF K) 0 G0 gn0 := Stg.nil
theorem gk0 (q : Cq K mg base) : Gk Pr wo K mg base (lk K tcn (gaF K)) 0 G0 gn0 bn tT := (st0 q).gk q.KX q.hns q.hx (bfree q)
theorem u0 (q : Cq K mg base) : ∃ fd, FunD K d0.name d0.qual d0.params d0.body d0.scope [] [] (He.fAd K d0.at_) fd := q.hs.def_ 0 (d := d0) (by kernel_rfl)
theorem e0 (q : Cq K mg base) : FE Pr wo K mg base (lk K tcn (gaF K)) 1 0 "copied" f0 := by
  obtain ⟨fd, F⟩ := u0 q
  have hb : Binds K fd ["value"] [] := FunD.bindsN F fun _ _ _ _ _ _ us hl => match us, hl with | [_], _ => rfl
  have hg : (lk K tcn (gaF K)).ga 0 = He.ga K "copied" := by show He.ga K (gall.getD 0 "") = _; rw [show gall.getD 0 "" = ("copied" : PySem.Str) from by kernel_rfl]
  exact fe_of (c := c0) (gk0 q) (by kernel_rfl) F s0 k0 (He.glo_ok q.KX q.hns (q.hs.fact 0 (f := .glo "copied") (by kernel_rfl))) hg hb
theorem u1 (q : Cq K mg base) : ∃ fd, FunD K d32.name d32.qual d32.params d32.body d32.scope [] [] (He.fAd K d32.at_) fd := q.hs.def_ 32 (d := d32) (by kernel_rfl)
theorem e1 (q : Cq K mg base) : FE Pr wo K mg base (lk K tcn (gaF K)) 1 1 "_law_pen" f1 := by
  obtain ⟨fd, F⟩ := u1 q
  have hb : Binds K fd ["script"] [] := FunD.bindsN F fun _ _ _ _ _ _ us hl => match us, hl with | [_], _ => rfl
  have hg : (lk K tcn (gaF K)).ga 1 = He.ga K "_law_pen" := by show He.ga K (gall.getD 1 "") = _; rw [show gall.getD 1 "" = ("_law_pen" : PySem.Str) from by kernel_rfl]
  exact fe_of (c := c1) (gk0 q) (by kernel_rfl) F s1 k1 (He.glo_ok q.KX q.hns (q.hs.fact 1 (f := .glo "_law_pen") (by kernel_rfl))) hg hb
theorem u2 (q : Cq K mg base) : ∃ fd, FunD K d33.name d33.qual d33.params d33.body d33.scope [] [] (He.fAd K d33.at_) fd := q.hs.def_ 33 (d := d33) (by kernel_rfl)
theorem e2 (q : Cq K mg base) : FE Pr wo K mg base (lk K tcn (gaF K)) 1 2 "_law_draw" f2 := by
  obtain ⟨fd, F⟩ := u2 q
  have hb : Binds K fd ["pen", "many"] [] := FunD.bindsN F fun _ _ _ _ _ _ us hl => match us, hl with | [_, _], _ => rfl
  have hg : (lk K tcn (gaF K)).ga 2 = He.ga K "_law_draw" := by show He.ga K (gall.getD 2 "") = _; rw [show gall.getD 2 "" = ("_law_draw" : PySem.Str) from by kernel_rfl]
  exact fe_of (c := c2) (gk0 q) (by kernel_rfl) F s2 k2 (He.glo_ok q.KX q.hns (q.hs.fact 2 (f := .glo "_law_draw") (by kernel_rfl))) hg hb
theorem u3 (q : Cq K mg base) : ∃ fd, FunD K d38.name d38.qual d38.params d38.body d38.scope [] [] (He.fAd K d38.at_) fd := q.hs.def_ 38 (d := d38) (by kernel_rfl)
theorem e3 (q : Cq K mg base) : FE Pr wo K mg base (lk K tcn (gaF K)) 1 3 "_law_bare" f3 := by
  obtain ⟨fd, F⟩ := u3 q
  have hb : Binds K fd [] [] := FunD.bindsN F fun _ _ _ _ _ _ us hl => match us, hl with | [], _ => rfl
  have hg : (lk K tcn (gaF K)).ga 3 = He.ga K "_law_bare" := by show He.ga K (gall.getD 3 "") = _; rw [show gall.getD 3 "" = ("_law_bare" : PySem.Str) from by kernel_rfl]
  exact fe_of (c := c3) (gk0 q) (by kernel_rfl) F s3 k3 (He.glo_ok q.KX q.hns (q.hs.fact 7 (f := .glo "_law_bare") (by kernel_rfl))) hg hb
theorem u4 (q : Cq K mg base) : ∃ fd, FunD K d40.name d40.qual d40.params d40.body d40.scope [] [] (He.fAd K d40.at_) fd := q.hs.def_ 40 (d := d40) (by kernel_rfl)
theorem e4 (q : Cq K mg base) : FE Pr wo K mg base (lk K tcn (gaF K)) 1 4 "_law_copy" f4 := by
  obtain ⟨fd, F⟩ := u4 q
  have hb : Binds K fd ["value"] [] := FunD.bindsN F fun _ _ _ _ _ _ us hl => match us, hl with | [_], _ => rfl
  have hg : (lk K tcn (gaF K)).ga 4 = He.ga K "_law_copy" := by show He.ga K (gall.getD 4 "") = _; rw [show gall.getD 4 "" = ("_law_copy" : PySem.Str) from by kernel_rfl]
  exact fe_of (c := c4) (gk0 q) (by kernel_rfl) F s4 k4 (He.glo_ok q.KX q.hns (q.hs.fact 9 (f := .glo "_law_copy") (by kernel_rfl))) hg hb
theorem st1 (q : Cq K mg base) : Stg Pr wo K mg base tT (gaF K) 1 G1 gn1 := by
  refine Stg.step (st0 q) (by kernel_rfl) (Gs := [f0, f1, f2, f3, f4]) (gs := ["copied", "_law_pen", "_law_draw", "_law_bare", "_law_copy"]) (fun i f x h1 h2 h3 => ?_) (fun c i f h1 h2 => ?_)
  · match i, h1, h2 with
    | 0, h1, h2 => exact (Option.some.inj h1) ▸ (Option.some.inj h2) ▸ e0 q
    | 1, h1, h2 => exact (Option.some.inj h1) ▸ (Option.some.inj h2) ▸ e1 q
    | 2, h1, h2 => exact (Option.some.inj h1) ▸ (Option.some.inj h2) ▸ e2 q
    | 3, h1, h2 => exact (Option.some.inj h1) ▸ (Option.some.inj h2) ▸ e3 q
    | 4, h1, h2 => exact (Option.some.inj h1) ▸ (Option.some.inj h2) ▸ e4 q
    | n + 5, h1, h2 => exact absurd h1 (by simp)
  · match i, h1, h2 with
    | 0, h1, h2 => exact (mkf_no (T := tT) (g := 0) (by decide +kernel) h1).elim
    | 1, h1, h2 => exact (mkf_no (T := tT) (g := 1) (by decide +kernel) h1).elim
    | 2, h1, h2 => exact (mkf_no (T := tT) (g := 2) (by decide +kernel) h1).elim
    | 3, h1, h2 => exact (mkf_no (T := tT) (g := 3) (by decide +kernel) h1).elim
    | 4, h1, h2 => exact (mkf_no (T := tT) (g := 4) (by decide +kernel) h1).elim
    | n + 5, h1, h2 => exact absurd h2 (by simp)
theorem gk1 (q : Cq K mg base) : Gk Pr wo K mg base (lk K tcn (gaF K)) 1 G1 gn1 bn tT := (st1 q).gk q.KX q.hns q.hx (bfree q)
theorem u5 (q : Cq K mg base) : ∃ fd, FunD K d34.name d34.qual d34.params d34.body d34.scope [] [] (He.fAd K d34.at_) fd := q.hs.def_ 34 (d := d34) (by kernel_rfl)
theorem e5 (q : Cq K mg base) : FE Pr wo K mg base (lk K tcn (gaF K)) 2 5 "_law_pick" f5 := by
  obtain ⟨fd, F⟩ := u5 q
  have hb : Binds K fd ["pen", "some"] [] := FunD.bindsN F fun _ _ _ _ _ _ us hl => match us, hl with | [_, _], _ => rfl
  have hg : (lk K tcn (gaF K)).ga 5 = He.ga K "_law_pick" := by show He.ga K (gall.getD 5 "") = _; rw [show gall.getD 5 "" = ("_law_pick" : PySem.Str) from by kernel_rfl]
  exact fe_of (c := c5) (gk1 q) (by kernel_rfl) F s5 k5 (He.glo_ok q.KX q.hns (q.hs.fact 3 (f := .glo "_law_pick") (by kernel_rfl))) hg hb
theorem st2 (q : Cq K mg base) : Stg Pr wo K mg base tT (gaF K) 2 G2 gn2 := by
  refine Stg.step (st1 q) (by kernel_rfl) (Gs := [f5]) (gs := ["_law_pick"]) (fun i f x h1 h2 h3 => ?_) (fun c i f h1 h2 => ?_)
  · match i, h1, h2 with
    | 0, h1, h2 => exact (Option.some.inj h1) ▸ (Option.some.inj h2) ▸ e5 q
    | n + 1, h1, h2 => exact absurd h1 (by simp)
  · match i, h1, h2 with
    | 0, h1, h2 => exact (mkf_no (T := tT) (g := 5) (by decide +kernel) h1).elim
    | n + 1, h1, h2 => exact absurd h2 (by simp)
theorem gk2 (q : Cq K mg base) : Gk Pr wo K mg base (lk K tcn (gaF K)) 2 G2 gn2 bn tT := (st2 q).gk q.KX q.hns q.hx (bfree q)
theorem u6 (q : Cq K mg base) : ∃ fd, FunD K d1.name d1.qual d1.params d1.body d1.scope [] [] (He.fAd K d1.at_) fd := q.hs.def_ 1 (d := d1) (by kernel_rfl)
theorem m6 (q : Cq K mg base) : MkAt Pr wo K mg base tT (lk K tcn (gaF K)) 3 1 f6 := by
  obtain ⟨fd, F⟩ := u6 q
  have hb : Binds K fd ["self", "lot", "things"] [] := FunD.bindsN F fun _ _ _ _ _ _ us hl => match us, hl with | [_, _, _], _ => rfl
  have hc : He.fAd K d1.at_ = He.ma K (caOf tT.cn K 1) "__init__" := by show He.ma K (He.ga K "Four") "__init__" = He.ma K (He.ga K (tcn.getD 1 "")) "__init__"; rw [show tcn.getD 1 "" = ("Four" : PySem.Str) from by kernel_rfl]
  rw [hc] at F
  refine mk_of (c := c6) (gk1 q) (by kernel_rfl) (np := 2) rfl F s6 k6 hb fun ks pm hm => ?_
  obtain ⟨e1, e2⟩ := kws_of (c := 1) (ks0 := ["things", "lot"]) (pm0 := [1, 0]) (by decide +kernel) hm
  subst e1 e2
  exact kb_of F fun _ _ _ _ _ _ us ws h1 h2 => match us, ws, h1, h2 with | [_], [_, _], _, _ => rfl
theorem u7 (q : Cq K mg base) : ∃ fd, FunD K d2.name d2.qual d2.params d2.body d2.scope [] [] (He.fAd K d2.at_) fd := q.hs.def_ 2 (d := d2) (by kernel_rfl)
theorem m7 (q : Cq K mg base) : MkAt Pr wo K mg base tT (lk K tcn (gaF K)) 3 2 f7 := by
  obtain ⟨fd, F⟩ := u7 q
  have hb : Binds K fd ["self", "ring", "cut"] [] := FunD.bindsN F fun _ _ _ _ _ _ us hl => match us, hl with | [_, _, _], _ => rfl
  have hc : He.fAd K d2.at_ = He.ma K (caOf tT.cn K 2) "__init__" := by show He.ma K (He.ga K "MeetBreak") "__init__" = He.ma K (He.ga K (tcn.getD 2 "")) "__init__"; rw [show tcn.getD 2 "" = ("MeetBreak" : PySem.Str) from by kernel_rfl]
  rw [hc] at F
  refine mk_of (c := c7) (gk1 q) (by kernel_rfl) (np := 2) rfl F s7 k7 hb fun ks pm hm => ?_
  obtain ⟨e1, e2⟩ := kws_of (c := 2) (ks0 := ["cut", "ring"]) (pm0 := [1, 0]) (by decide +kernel) hm
  subst e1 e2
  exact kb_of F fun _ _ _ _ _ _ us ws h1 h2 => match us, ws, h1, h2 with | [_], [_, _], _, _ => rfl
theorem u8 (q : Cq K mg base) : ∃ fd, FunD K d3.name d3.qual d3.params d3.body d3.scope [] [] (He.fAd K d3.at_) fd := q.hs.def_ 3 (d := d3) (by kernel_rfl)
theorem m8 (q : Cq K mg base) : MkAt Pr wo K mg base tT (lk K tcn (gaF K)) 3 3 f8 := by
  obtain ⟨fd, F⟩ := u8 q
  have hb : Binds K fd ["self", "one", "other"] [] := FunD.bindsN F fun _ _ _ _ _ _ us hl => match us, hl with | [_, _, _], _ => rfl
  have hc : He.fAd K d3.at_ = He.ma K (caOf tT.cn K 3) "__init__" := by show He.ma K (He.ga K "SumBreak") "__init__" = He.ma K (He.ga K (tcn.getD 3 "")) "__init__"; rw [show tcn.getD 3 "" = ("SumBreak" : PySem.Str) from by kernel_rfl]
  rw [hc] at F
  refine mk_of (c := c8) (gk1 q) (by kernel_rfl) (np := 2) rfl F s8 k8 hb fun ks pm hm => ?_
  obtain ⟨e1, e2⟩ := kws_of (c := 3) (ks0 := ["other", "one"]) (pm0 := [1, 0]) (by decide +kernel) hm
  subst e1 e2
  exact kb_of F fun _ _ _ _ _ _ us ws h1 h2 => match us, ws, h1, h2 with | [_], [_, _], _, _ => rfl
theorem u9 (q : Cq K mg base) : ∃ fd, FunD K d4.name d4.qual d4.params d4.body d4.scope [] [] (He.fAd K d4.at_) fd := q.hs.def_ 4 (d := d4) (by kernel_rfl)
theorem m9 (q : Cq K mg base) : MkAt Pr wo K mg base tT (lk K tcn (gaF K)) 3 4 f9 := by
  obtain ⟨fd, F⟩ := u9 q
  have hb : Binds K fd ["self", "base", "ring"] [] := FunD.bindsN F fun _ _ _ _ _ _ us hl => match us, hl with | [_, _, _], _ => rfl
  have hc : He.fAd K d4.at_ = He.ma K (caOf tT.cn K 4) "__init__" := by show He.ma K (He.ga K "BaseBreak") "__init__" = He.ma K (He.ga K (tcn.getD 4 "")) "__init__"; rw [show tcn.getD 4 "" = ("BaseBreak" : PySem.Str) from by kernel_rfl]
  rw [hc] at F
  refine mk_of (c := c9) (gk1 q) (by kernel_rfl) (np := 2) rfl F s9 k9 hb fun ks pm hm => ?_
  obtain ⟨e1, e2⟩ := kws_of (c := 4) (ks0 := ["ring", "base"]) (pm0 := [1, 0]) (by decide +kernel) hm
  subst e1 e2
  exact kb_of F fun _ _ _ _ _ _ us ws h1 h2 => match us, ws, h1, h2 with | [_], [_, _], _, _ => rfl
theorem u10 (q : Cq K mg base) : ∃ fd, FunD K d5.name d5.qual d5.params d5.body d5.scope [] [] (He.fAd K d5.at_) fd := q.hs.def_ 5 (d := d5) (by kernel_rfl)
theorem m10 (q : Cq K mg base) : MkAt Pr wo K mg base tT (lk K tcn (gaF K)) 3 5 f10 := by
  obtain ⟨fd, F⟩ := u10 q
  have hb : Binds K fd ["self", "flat", "above"] [] := FunD.bindsN F fun _ _ _ _ _ _ us hl => match us, hl with | [_, _, _], _ => rfl
  have hc : He.fAd K d5.at_ = He.ma K (caOf tT.cn K 5) "__init__" := by show He.ma K (He.ga K "FlatBreak") "__init__" = He.ma K (He.ga K (tcn.getD 5 "")) "__init__"; rw [show tcn.getD 5 "" = ("FlatBreak" : PySem.Str) from by kernel_rfl]
  rw [hc] at F
  refine mk_of (c := c10) (gk1 q) (by kernel_rfl) (np := 2) rfl F s10 k10 hb fun ks pm hm => ?_
  obtain ⟨e1, e2⟩ := kws_of (c := 5) (ks0 := ["above", "flat"]) (pm0 := [1, 0]) (by decide +kernel) hm
  subst e1 e2
  exact kb_of F fun _ _ _ _ _ _ us ws h1 h2 => match us, ws, h1, h2 with | [_], [_, _], _, _ => rfl
theorem u11 (q : Cq K mg base) : ∃ fd, FunD K d6.name d6.qual d6.params d6.body d6.scope [] [] (He.fAd K d6.at_) fd := q.hs.def_ 6 (d := d6) (by kernel_rfl)
theorem m11 (q : Cq K mg base) : MkAt Pr wo K mg base tT (lk K tcn (gaF K)) 3 6 f11 := by
  obtain ⟨fd, F⟩ := u11 q
  have hb : Binds K fd ["self", "one", "other", "thing"] [] := FunD.bindsN F fun _ _ _ _ _ _ us hl => match us, hl with | [_, _, _, _], _ => rfl
  have hc : He.fAd K d6.at_ = He.ma K (caOf tT.cn K 6) "__init__" := by show He.ma K (He.ga K "ExchangeBreak") "__init__" = He.ma K (He.ga K (tcn.getD 6 "")) "__init__"; rw [show tcn.getD 6 "" = ("ExchangeBreak" : PySem.Str) from by kernel_rfl]
  rw [hc] at F
  refine mk_of (c := c11) (gk1 q) (by kernel_rfl) (np := 3) rfl F s11 k11 hb fun ks pm hm => ?_
  obtain ⟨e1, e2⟩ := kws_of (c := 6) (ks0 := ["thing", "other", "one"]) (pm0 := [2, 1, 0]) (by decide +kernel) hm
  subst e1 e2
  exact kb_of F fun _ _ _ _ _ _ us ws h1 h2 => match us, ws, h1, h2 with | [_], [_, _, _], _, _ => rfl
theorem u12 (q : Cq K mg base) : ∃ fd, FunD K d7.name d7.qual d7.params d7.body d7.scope [] [] (He.fAd K d7.at_) fd := q.hs.def_ 7 (d := d7) (by kernel_rfl)
theorem m12 (q : Cq K mg base) : MkAt Pr wo K mg base tT (lk K tcn (gaF K)) 3 7 f12 := by
  obtain ⟨fd, F⟩ := u12 q
  have hb : Binds K fd ["self", "lot"] [] := FunD.bindsN F fun _ _ _ _ _ _ us hl => match us, hl with | [_, _], _ => rfl
  have hc : He.fAd K d7.at_ = He.ma K (caOf tT.cn K 7) "__init__" := by show He.ma K (He.ga K "InBoth") "__init__" = He.ma K (He.ga K (tcn.getD 7 "")) "__init__"; rw [show tcn.getD 7 "" = ("InBoth" : PySem.Str) from by kernel_rfl]
  rw [hc] at F
  refine mk_of (c := c12) (gk1 q) (by kernel_rfl) (np := 1) rfl F s12 k12 hb fun ks pm hm => ?_
  obtain ⟨e1, e2⟩ := kws_of (c := 7) (ks0 := ["lot"]) (pm0 := [0]) (by decide +kernel) hm
  subst e1 e2
  exact kb_of F fun _ _ _ _ _ _ us ws h1 h2 => match us, ws, h1, h2 with | [_], [_], _, _ => rfl
theorem u13 (q : Cq K mg base) : ∃ fd, FunD K d8.name d8.qual d8.params d8.body d8.scope [] [] (He.fAd K d8.at_) fd := q.hs.def_ 8 (d := d8) (by kernel_rfl)
theorem m13 (q : Cq K mg base) : MkAt Pr wo K mg base tT (lk K tcn (gaF K)) 3 8 f13 := by
  obtain ⟨fd, F⟩ := u13 q
  have hb : Binds K fd ["self", "lot"] [] := FunD.bindsN F fun _ _ _ _ _ _ us hl => match us, hl with | [_, _], _ => rfl
  have hc : He.fAd K d8.at_ = He.ma K (caOf tT.cn K 8) "__init__" := by show He.ma K (He.ga K "RingLess") "__init__" = He.ma K (He.ga K (tcn.getD 8 "")) "__init__"; rw [show tcn.getD 8 "" = ("RingLess" : PySem.Str) from by kernel_rfl]
  rw [hc] at F
  refine mk_of (c := c13) (gk1 q) (by kernel_rfl) (np := 1) rfl F s13 k13 hb fun ks pm hm => ?_
  obtain ⟨e1, e2⟩ := kws_of (c := 8) (ks0 := ["lot"]) (pm0 := [0]) (by decide +kernel) hm
  subst e1 e2
  exact kb_of F fun _ _ _ _ _ _ us ws h1 h2 => match us, ws, h1, h2 with | [_], [_], _, _ => rfl
theorem u14 (q : Cq K mg base) : ∃ fd, FunD K d9.name d9.qual d9.params d9.body d9.scope [] [] (He.fAd K d9.at_) fd := q.hs.def_ 9 (d := d9) (by kernel_rfl)
theorem m14 (q : Cq K mg base) : MkAt Pr wo K mg base tT (lk K tcn (gaF K)) 3 9 f14 := by
  obtain ⟨fd, F⟩ := u14 q
  have hb : Binds K fd ["self", "lot"] [] := FunD.bindsN F fun _ _ _ _ _ _ us hl => match us, hl with | [_, _], _ => rfl
  have hc : He.fAd K d9.at_ = He.ma K (caOf tT.cn K 9) "__init__" := by show He.ma K (He.ga K "CutLess") "__init__" = He.ma K (He.ga K (tcn.getD 9 "")) "__init__"; rw [show tcn.getD 9 "" = ("CutLess" : PySem.Str) from by kernel_rfl]
  rw [hc] at F
  refine mk_of (c := c14) (gk1 q) (by kernel_rfl) (np := 1) rfl F s14 k14 hb fun ks pm hm => ?_
  obtain ⟨e1, e2⟩ := kws_of (c := 9) (ks0 := ["lot"]) (pm0 := [0]) (by decide +kernel) hm
  subst e1 e2
  exact kb_of F fun _ _ _ _ _ _ us ws h1 h2 => match us, ws, h1, h2 with | [_], [_], _, _ => rfl
theorem u15 (q : Cq K mg base) : ∃ fd, FunD K d10.name d10.qual d10.params d10.body d10.scope [] [] (He.fAd K d10.at_) fd := q.hs.def_ 10 (d := d10) (by kernel_rfl)
theorem m15 (q : Cq K mg base) : MkAt Pr wo K mg base tT (lk K tcn (gaF K)) 3 10 f15 := by
  obtain ⟨fd, F⟩ := u15 q
  have hb : Binds K fd ["self", "rows"] [] := FunD.bindsN F fun _ _ _ _ _ _ us hl => match us, hl with | [_, _], _ => rfl
  have hc : He.fAd K d10.at_ = He.ma K (caOf tT.cn K 10) "__init__" := by show He.ma K (He.ga K "EvenTable") "__init__" = He.ma K (He.ga K (tcn.getD 10 "")) "__init__"; rw [show tcn.getD 10 "" = ("EvenTable" : PySem.Str) from by kernel_rfl]
  rw [hc] at F
  refine mk_of (c := c15) (gk1 q) (by kernel_rfl) (np := 1) rfl F s15 k15 hb fun ks pm hm => ?_
  obtain ⟨e1, e2⟩ := kws_of (c := 10) (ks0 := ["rows"]) (pm0 := [0]) (by decide +kernel) hm
  subst e1 e2
  exact kb_of F fun _ _ _ _ _ _ us ws h1 h2 => match us, ws, h1, h2 with | [_], [_], _, _ => rfl
theorem u16 (q : Cq K mg base) : ∃ fd, FunD K d11.name d11.qual d11.params d11.body d11.scope [] [] (He.fAd K d11.at_) fd := q.hs.def_ 11 (d := d11) (by kernel_rfl)
theorem m16 (q : Cq K mg base) : MkAt Pr wo K mg base tT (lk K tcn (gaF K)) 3 11 f16 := by
  obtain ⟨fd, F⟩ := u16 q
  have hb : Binds K fd ["self", "rows"] [] := FunD.bindsN F fun _ _ _ _ _ _ us hl => match us, hl with | [_, _], _ => rfl
  have hc : He.fAd K d11.at_ = He.ma K (caOf tT.cn K 11) "__init__" := by show He.ma K (He.ga K "ThreeTable") "__init__" = He.ma K (He.ga K (tcn.getD 11 "")) "__init__"; rw [show tcn.getD 11 "" = ("ThreeTable" : PySem.Str) from by kernel_rfl]
  rw [hc] at F
  refine mk_of (c := c16) (gk1 q) (by kernel_rfl) (np := 1) rfl F s16 k16 hb fun ks pm hm => ?_
  obtain ⟨e1, e2⟩ := kws_of (c := 11) (ks0 := ["rows"]) (pm0 := [0]) (by decide +kernel) hm
  subst e1 e2
  exact kb_of F fun _ _ _ _ _ _ us ws h1 h2 => match us, ws, h1, h2 with | [_], [_], _, _ => rfl
theorem u17 (q : Cq K mg base) : ∃ fd, FunD K d12.name d12.qual d12.params d12.body d12.scope [] [] (He.fAd K d12.at_) fd := q.hs.def_ 12 (d := d12) (by kernel_rfl)
theorem m17 (q : Cq K mg base) : MkAt Pr wo K mg base tT (lk K tcn (gaF K)) 3 12 f17 := by
  obtain ⟨fd, F⟩ := u17 q
  have hb : Binds K fd ["self", "rows"] [] := FunD.bindsN F fun _ _ _ _ _ _ us hl => match us, hl with | [_, _], _ => rfl
  have hc : He.fAd K d12.at_ = He.ma K (caOf tT.cn K 12) "__init__" := by show He.ma K (He.ga K "Signed") "__init__" = He.ma K (He.ga K (tcn.getD 12 "")) "__init__"; rw [show tcn.getD 12 "" = ("Signed" : PySem.Str) from by kernel_rfl]
  rw [hc] at F
  refine mk_of (c := c17) (gk1 q) (by kernel_rfl) (np := 1) rfl F s17 k17 hb fun ks pm hm => ?_
  obtain ⟨e1, e2⟩ := kws_of (c := 12) (ks0 := ["rows"]) (pm0 := [0]) (by decide +kernel) hm
  subst e1 e2
  exact kb_of F fun _ _ _ _ _ _ us ws h1 h2 => match us, ws, h1, h2 with | [_], [_], _, _ => rfl
theorem u18 (q : Cq K mg base) : ∃ fd, FunD K d13.name d13.qual d13.params d13.body d13.scope [] [] (He.fAd K d13.at_) fd := q.hs.def_ 13 (d := d13) (by kernel_rfl)
theorem m18 (q : Cq K mg base) : MkAt Pr wo K mg base tT (lk K tcn (gaF K)) 3 13 f18 := by
  obtain ⟨fd, F⟩ := u18 q
  have hb : Binds K fd ["self", "kind", "names"] [] := FunD.bindsN F fun _ _ _ _ _ _ us hl => match us, hl with | [_, _, _], _ => rfl
  have hc : He.fAd K d13.at_ = He.ma K (caOf tT.cn K 13) "__init__" := by show He.ma K (He.ga K "SevenAt") "__init__" = He.ma K (He.ga K (tcn.getD 13 "")) "__init__"; rw [show tcn.getD 13 "" = ("SevenAt" : PySem.Str) from by kernel_rfl]
  rw [hc] at F
  refine mk_of (c := c18) (gk1 q) (by kernel_rfl) (np := 2) rfl F s18 k18 hb fun ks pm hm => ?_
  obtain ⟨e1, e2⟩ := kws_of (c := 13) (ks0 := ["names", "kind"]) (pm0 := [1, 0]) (by decide +kernel) hm
  subst e1 e2
  exact kb_of F fun _ _ _ _ _ _ us ws h1 h2 => match us, ws, h1, h2 with | [_], [_, _], _, _ => rfl
theorem u19 (q : Cq K mg base) : ∃ fd, FunD K d14.name d14.qual d14.params d14.body d14.scope [] [] (He.fAd K d14.at_) fd := q.hs.def_ 14 (d := d14) (by kernel_rfl)
theorem m19 (q : Cq K mg base) : MkAt Pr wo K mg base tT (lk K tcn (gaF K)) 3 15 f19 := by
  obtain ⟨fd, F⟩ := u19 q
  have hb : Binds K fd ["self", "lines", "columns"] [] := FunD.bindsN F fun _ _ _ _ _ _ us hl => match us, hl with | [_, _, _], _ => rfl
  have hc : He.fAd K d14.at_ = He.ma K (caOf tT.cn K 15) "__init__" := by show He.ma K (He.ga K "UnitNot") "__init__" = He.ma K (He.ga K (tcn.getD 15 "")) "__init__"; rw [show tcn.getD 15 "" = ("UnitNot" : PySem.Str) from by kernel_rfl]
  rw [hc] at F
  refine mk_of (c := c19) (gk1 q) (by kernel_rfl) (np := 2) rfl F s19 k19 hb fun ks pm hm => ?_
  obtain ⟨e1, e2⟩ := kws_of (c := 15) (ks0 := ["columns", "lines"]) (pm0 := [1, 0]) (by decide +kernel) hm
  subst e1 e2
  exact kb_of F fun _ _ _ _ _ _ us ws h1 h2 => match us, ws, h1, h2 with | [_], [_, _], _, _ => rfl
theorem u20 (q : Cq K mg base) : ∃ fd, FunD K d15.name d15.qual d15.params d15.body d15.scope [] [] (He.fAd K d15.at_) fd := q.hs.def_ 15 (d := d15) (by kernel_rfl)
theorem m20 (q : Cq K mg base) : MkAt Pr wo K mg base tT (lk K tcn (gaF K)) 3 17 f20 := by
  obtain ⟨fd, F⟩ := u20 q
  have hb : Binds K fd ["self", "lines", "columns"] [] := FunD.bindsN F fun _ _ _ _ _ _ us hl => match us, hl with | [_, _, _], _ => rfl
  have hc : He.fAd K d15.at_ = He.ma K (caOf tT.cn K 17) "__init__" := by show He.ma K (He.ga K "SumNot") "__init__" = He.ma K (He.ga K (tcn.getD 17 "")) "__init__"; rw [show tcn.getD 17 "" = ("SumNot" : PySem.Str) from by kernel_rfl]
  rw [hc] at F
  refine mk_of (c := c20) (gk1 q) (by kernel_rfl) (np := 2) rfl F s20 k20 hb fun ks pm hm => ?_
  obtain ⟨e1, e2⟩ := kws_of (c := 17) (ks0 := ["columns", "lines"]) (pm0 := [1, 0]) (by decide +kernel) hm
  subst e1 e2
  exact kb_of F fun _ _ _ _ _ _ us ws h1 h2 => match us, ws, h1, h2 with | [_], [_, _], _, _ => rfl
theorem u21 (q : Cq K mg base) : ∃ fd, FunD K d16.name d16.qual d16.params d16.body d16.scope [] [] (He.fAd K d16.at_) fd := q.hs.def_ 16 (d := d16) (by kernel_rfl)
theorem m21 (q : Cq K mg base) : MkAt Pr wo K mg base tT (lk K tcn (gaF K)) 3 19 f21 := by
  obtain ⟨fd, F⟩ := u21 q
  have hb : Binds K fd ["self", "lines"] [] := FunD.bindsN F fun _ _ _ _ _ _ us hl => match us, hl with | [_, _], _ => rfl
  have hc : He.fAd K d16.at_ = He.ma K (caOf tT.cn K 19) "__init__" := by show He.ma K (He.ga K "PartsNot") "__init__" = He.ma K (He.ga K (tcn.getD 19 "")) "__init__"; rw [show tcn.getD 19 "" = ("PartsNot" : PySem.Str) from by kernel_rfl]
  rw [hc] at F
  refine mk_of (c := c21) (gk1 q) (by kernel_rfl) (np := 1) rfl F s21 k21 hb fun ks pm hm => ?_
  obtain ⟨e1, e2⟩ := kws_of (c := 19) (ks0 := ["lines"]) (pm0 := [0]) (by decide +kernel) hm
  subst e1 e2
  exact kb_of F fun _ _ _ _ _ _ us ws h1 h2 => match us, ws, h1, h2 with | [_], [_], _, _ => rfl
theorem u22 (q : Cq K mg base) : ∃ fd, FunD K d17.name d17.qual d17.params d17.body d17.scope [] [] (He.fAd K d17.at_) fd := q.hs.def_ 17 (d := d17) (by kernel_rfl)
theorem m22 (q : Cq K mg base) : MkAt Pr wo K mg base tT (lk K tcn (gaF K)) 3 20 f22 := by
  obtain ⟨fd, F⟩ := u22 q
  have hb : Binds K fd ["self", "lots"] [] := FunD.bindsN F fun _ _ _ _ _ _ us hl => match us, hl with | [_, _], _ => rfl
  have hc : He.fAd K d17.at_ = He.ma K (caOf tT.cn K 20) "__init__" := by show He.ma K (He.ga K "EvenCover") "__init__" = He.ma K (He.ga K (tcn.getD 20 "")) "__init__"; rw [show tcn.getD 20 "" = ("EvenCover" : PySem.Str) from by kernel_rfl]
  rw [hc] at F
  refine mk_of (c := c22) (gk1 q) (by kernel_rfl) (np := 1) rfl F s22 k22 hb fun ks pm hm => ?_
  obtain ⟨e1, e2⟩ := kws_of (c := 20) (ks0 := ["lots"]) (pm0 := [0]) (by decide +kernel) hm
  subst e1 e2
  exact kb_of F fun _ _ _ _ _ _ us ws h1 h2 => match us, ws, h1, h2 with | [_], [_], _, _ => rfl
theorem u23 (q : Cq K mg base) : ∃ fd, FunD K d18.name d18.qual d18.params d18.body d18.scope [] [] (He.fAd K d18.at_) fd := q.hs.def_ 18 (d := d18) (by kernel_rfl)
theorem m23 (q : Cq K mg base) : MkAt Pr wo K mg base tT (lk K tcn (gaF K)) 3 21 f23 := by
  obtain ⟨fd, F⟩ := u23 q
  have hb : Binds K fd ["self", "row"] [] := FunD.bindsN F fun _ _ _ _ _ _ us hl => match us, hl with | [_, _], _ => rfl
  have hc : He.fAd K d18.at_ = He.ma K (caOf tT.cn K 21) "__init__" := by show He.ma K (He.ga K "WholeFlow") "__init__" = He.ma K (He.ga K (tcn.getD 21 "")) "__init__"; rw [show tcn.getD 21 "" = ("WholeFlow" : PySem.Str) from by kernel_rfl]
  rw [hc] at F
  refine mk_of (c := c23) (gk1 q) (by kernel_rfl) (np := 1) rfl F s23 k23 hb fun ks pm hm => ?_
  obtain ⟨e1, e2⟩ := kws_of (c := 21) (ks0 := ["row"]) (pm0 := [0]) (by decide +kernel) hm
  subst e1 e2
  exact kb_of F fun _ _ _ _ _ _ us ws h1 h2 => match us, ws, h1, h2 with | [_], [_], _, _ => rfl
theorem u24 (q : Cq K mg base) : ∃ fd, FunD K d19.name d19.qual d19.params d19.body d19.scope [] [] (He.fAd K d19.at_) fd := q.hs.def_ 19 (d := d19) (by kernel_rfl)
theorem m24 (q : Cq K mg base) : MkAt Pr wo K mg base tT (lk K tcn (gaF K)) 3 23 f24 := by
  obtain ⟨fd, F⟩ := u24 q
  have hb : Binds K fd ["self", "one", "other", "thing"] [] := FunD.bindsN F fun _ _ _ _ _ _ us hl => match us, hl with | [_, _, _, _], _ => rfl
  have hc : He.fAd K d19.at_ = He.ma K (caOf tT.cn K 23) "__init__" := by show He.ma K (He.ga K "EvenWays") "__init__" = He.ma K (He.ga K (tcn.getD 23 "")) "__init__"; rw [show tcn.getD 23 "" = ("EvenWays" : PySem.Str) from by kernel_rfl]
  rw [hc] at F
  refine mk_of (c := c24) (gk1 q) (by kernel_rfl) (np := 3) rfl F s24 k24 hb fun ks pm hm => ?_
  obtain ⟨e1, e2⟩ := kws_of (c := 23) (ks0 := ["thing", "other", "one"]) (pm0 := [2, 1, 0]) (by decide +kernel) hm
  subst e1 e2
  exact kb_of F fun _ _ _ _ _ _ us ws h1 h2 => match us, ws, h1, h2 with | [_], [_, _, _], _, _ => rfl
theorem u25 (q : Cq K mg base) : ∃ fd, FunD K d20.name d20.qual d20.params d20.body d20.scope [] [] (He.fAd K d20.at_) fd := q.hs.def_ 20 (d := d20) (by kernel_rfl)
theorem m25 (q : Cq K mg base) : MkAt Pr wo K mg base tT (lk K tcn (gaF K)) 3 25 f25 := by
  obtain ⟨fd, F⟩ := u25 q
  have hb : Binds K fd ["self", "flat", "above"] [] := FunD.bindsN F fun _ _ _ _ _ _ us hl => match us, hl with | [_, _, _], _ => rfl
  have hc : He.fAd K d20.at_ = He.ma K (caOf tT.cn K 25) "__init__" := by show He.ma K (He.ga K "ManyOver") "__init__" = He.ma K (He.ga K (tcn.getD 25 "")) "__init__"; rw [show tcn.getD 25 "" = ("ManyOver" : PySem.Str) from by kernel_rfl]
  rw [hc] at F
  refine mk_of (c := c25) (gk1 q) (by kernel_rfl) (np := 2) rfl F s25 k25 hb fun ks pm hm => ?_
  obtain ⟨e1, e2⟩ := kws_of (c := 25) (ks0 := ["above", "flat"]) (pm0 := [1, 0]) (by decide +kernel) hm
  subst e1 e2
  exact kb_of F fun _ _ _ _ _ _ us ws h1 h2 => match us, ws, h1, h2 with | [_], [_, _], _, _ => rfl
theorem u26 (q : Cq K mg base) : ∃ fd, FunD K d21.name d21.qual d21.params d21.body d21.scope [] [] (He.fAd K d21.at_) fd := q.hs.def_ 21 (d := d21) (by kernel_rfl)
theorem m26 (q : Cq K mg base) : MkAt Pr wo K mg base tT (lk K tcn (gaF K)) 3 26 f26 := by
  obtain ⟨fd, F⟩ := u26 q
  have hb : Binds K fd ["self", "lots", "lot"] [] := FunD.bindsN F fun _ _ _ _ _ _ us hl => match us, hl with | [_, _, _], _ => rfl
  have hc : He.fAd K d21.at_ = He.ma K (caOf tT.cn K 26) "__init__" := by show He.ma K (He.ga K "FreeCover") "__init__" = He.ma K (He.ga K (tcn.getD 26 "")) "__init__"; rw [show tcn.getD 26 "" = ("FreeCover" : PySem.Str) from by kernel_rfl]
  rw [hc] at F
  refine mk_of (c := c26) (gk1 q) (by kernel_rfl) (np := 2) rfl F s26 k26 hb fun ks pm hm => ?_
  obtain ⟨e1, e2⟩ := kws_of (c := 26) (ks0 := ["lot", "lots"]) (pm0 := [1, 0]) (by decide +kernel) hm
  subst e1 e2
  exact kb_of F fun _ _ _ _ _ _ us ws h1 h2 => match us, ws, h1, h2 with | [_], [_, _], _, _ => rfl
theorem u27 (q : Cq K mg base) : ∃ fd, FunD K d22.name d22.qual d22.params d22.body d22.scope [] [] (He.fAd K d22.at_) fd := q.hs.def_ 22 (d := d22) (by kernel_rfl)
theorem m27 (q : Cq K mg base) : MkAt Pr wo K mg base tT (lk K tcn (gaF K)) 3 27 f27 := by
  obtain ⟨fd, F⟩ := u27 q
  have hb : Binds K fd ["self", "thing"] [] := FunD.bindsN F fun _ _ _ _ _ _ us hl => match us, hl with | [_, _], _ => rfl
  have hc : He.fAd K d22.at_ = He.ma K (caOf tT.cn K 27) "__init__" := by show He.ma K (He.ga K "LoneRing") "__init__" = He.ma K (He.ga K (tcn.getD 27 "")) "__init__"; rw [show tcn.getD 27 "" = ("LoneRing" : PySem.Str) from by kernel_rfl]
  rw [hc] at F
  refine mk_of (c := c27) (gk1 q) (by kernel_rfl) (np := 1) rfl F s27 k27 hb fun ks pm hm => ?_
  obtain ⟨e1, e2⟩ := kws_of (c := 27) (ks0 := ["thing"]) (pm0 := [0]) (by decide +kernel) hm
  subst e1 e2
  exact kb_of F fun _ _ _ _ _ _ us ws h1 h2 => match us, ws, h1, h2 with | [_], [_], _, _ => rfl
theorem u28 (q : Cq K mg base) : ∃ fd, FunD K d23.name d23.qual d23.params d23.body d23.scope [] [] (He.fAd K d23.at_) fd := q.hs.def_ 23 (d := d23) (by kernel_rfl)
theorem m28 (q : Cq K mg base) : MkAt Pr wo K mg base tT (lk K tcn (gaF K)) 3 28 f28 := by
  obtain ⟨fd, F⟩ := u28 q
  have hb : Binds K fd ["self", "bases", "lot"] [] := FunD.bindsN F fun _ _ _ _ _ _ us hl => match us, hl with | [_, _, _], _ => rfl
  have hc : He.fAd K d23.at_ = He.ma K (caOf tT.cn K 28) "__init__" := by show He.ma K (He.ga K "BasePack") "__init__" = He.ma K (He.ga K (tcn.getD 28 "")) "__init__"; rw [show tcn.getD 28 "" = ("BasePack" : PySem.Str) from by kernel_rfl]
  rw [hc] at F
  refine mk_of (c := c28) (gk1 q) (by kernel_rfl) (np := 2) rfl F s28 k28 hb fun ks pm hm => ?_
  obtain ⟨e1, e2⟩ := kws_of (c := 28) (ks0 := ["lot", "bases"]) (pm0 := [1, 0]) (by decide +kernel) hm
  subst e1 e2
  exact kb_of F fun _ _ _ _ _ _ us ws h1 h2 => match us, ws, h1, h2 with | [_], [_, _], _, _ => rfl
theorem u29 (q : Cq K mg base) : ∃ fd, FunD K d24.name d24.qual d24.params d24.body d24.scope [] [] (He.fAd K d24.at_) fd := q.hs.def_ 24 (d := d24) (by kernel_rfl)
theorem m29 (q : Cq K mg base) : MkAt Pr wo K mg base tT (lk K tcn (gaF K)) 3 29 f29 := by
  obtain ⟨fd, F⟩ := u29 q
  have hb : Binds K fd ["self", "base", "chain"] [] := FunD.bindsN F fun _ _ _ _ _ _ us hl => match us, hl with | [_, _, _], _ => rfl
  have hc : He.fAd K d24.at_ = He.ma K (caOf tT.cn K 29) "__init__" := by show He.ma K (He.ga K "HeavyBase") "__init__" = He.ma K (He.ga K (tcn.getD 29 "")) "__init__"; rw [show tcn.getD 29 "" = ("HeavyBase" : PySem.Str) from by kernel_rfl]
  rw [hc] at F
  refine mk_of (c := c29) (gk1 q) (by kernel_rfl) (np := 2) rfl F s29 k29 hb fun ks pm hm => ?_
  obtain ⟨e1, e2⟩ := kws_of (c := 29) (ks0 := ["chain", "base"]) (pm0 := [1, 0]) (by decide +kernel) hm
  subst e1 e2
  exact kb_of F fun _ _ _ _ _ _ us ws h1 h2 => match us, ws, h1, h2 with | [_], [_, _], _, _ => rfl
theorem u30 (q : Cq K mg base) : ∃ fd, FunD K d25.name d25.qual d25.params d25.body d25.scope [] [] (He.fAd K d25.at_) fd := q.hs.def_ 25 (d := d25) (by kernel_rfl)
theorem m30 (q : Cq K mg base) : MkAt Pr wo K mg base tT (lk K tcn (gaF K)) 3 31 f30 := by
  obtain ⟨fd, F⟩ := u30 q
  have hb : Binds K fd ["self", "base", "ring"] [] := FunD.bindsN F fun _ _ _ _ _ _ us hl => match us, hl with | [_, _, _], _ => rfl
  have hc : He.fAd K d25.at_ = He.ma K (caOf tT.cn K 31) "__init__" := by show He.ma K (He.ga K "OwnNot") "__init__" = He.ma K (He.ga K (tcn.getD 31 "")) "__init__"; rw [show tcn.getD 31 "" = ("OwnNot" : PySem.Str) from by kernel_rfl]
  rw [hc] at F
  refine mk_of (c := c30) (gk1 q) (by kernel_rfl) (np := 2) rfl F s30 k30 hb fun ks pm hm => ?_
  obtain ⟨e1, e2⟩ := kws_of (c := 31) (ks0 := ["ring", "base"]) (pm0 := [1, 0]) (by decide +kernel) hm
  subst e1 e2
  exact kb_of F fun _ _ _ _ _ _ us ws h1 h2 => match us, ws, h1, h2 with | [_], [_, _], _, _ => rfl
theorem u31 (q : Cq K mg base) : ∃ fd, FunD K d26.name d26.qual d26.params d26.body d26.scope [] [] (He.fAd K d26.at_) fd := q.hs.def_ 26 (d := d26) (by kernel_rfl)
theorem m31 (q : Cq K mg base) : MkAt Pr wo K mg base tT (lk K tcn (gaF K)) 3 33 f31 := by
  obtain ⟨fd, F⟩ := u31 q
  have hb : Binds K fd ["self", "one", "other"] [] := FunD.bindsN F fun _ _ _ _ _ _ us hl => match us, hl with | [_, _, _], _ => rfl
  have hc : He.fAd K d26.at_ = He.ma K (caOf tT.cn K 33) "__init__" := by show He.ma K (He.ga K "SumWrong") "__init__" = He.ma K (He.ga K (tcn.getD 33 "")) "__init__"; rw [show tcn.getD 33 "" = ("SumWrong" : PySem.Str) from by kernel_rfl]
  rw [hc] at F
  refine mk_of (c := c31) (gk1 q) (by kernel_rfl) (np := 2) rfl F s31 k31 hb fun ks pm hm => ?_
  obtain ⟨e1, e2⟩ := kws_of (c := 33) (ks0 := ["other", "one"]) (pm0 := [1, 0]) (by decide +kernel) hm
  subst e1 e2
  exact kb_of F fun _ _ _ _ _ _ us ws h1 h2 => match us, ws, h1, h2 with | [_], [_, _], _, _ => rfl
theorem u32 (q : Cq K mg base) : ∃ fd, FunD K d27.name d27.qual d27.params d27.body d27.scope [] [] (He.fAd K d27.at_) fd := q.hs.def_ 27 (d := d27) (by kernel_rfl)
theorem m32 (q : Cq K mg base) : MkAt Pr wo K mg base tT (lk K tcn (gaF K)) 3 34 f32 := by
  obtain ⟨fd, F⟩ := u32 q
  have hb : Binds K fd ["self", "one", "other"] [] := FunD.bindsN F fun _ _ _ _ _ _ us hl => match us, hl with | [_, _, _], _ => rfl
  have hc : He.fAd K d27.at_ = He.ma K (caOf tT.cn K 34) "__init__" := by show He.ma K (He.ga K "ShortGame") "__init__" = He.ma K (He.ga K (tcn.getD 34 "")) "__init__"; rw [show tcn.getD 34 "" = ("ShortGame" : PySem.Str) from by kernel_rfl]
  rw [hc] at F
  refine mk_of (c := c32) (gk1 q) (by kernel_rfl) (np := 2) rfl F s32 k32 hb fun ks pm hm => ?_
  obtain ⟨e1, e2⟩ := kws_of (c := 34) (ks0 := ["other", "one"]) (pm0 := [1, 0]) (by decide +kernel) hm
  subst e1 e2
  exact kb_of F fun _ _ _ _ _ _ us ws h1 h2 => match us, ws, h1, h2 with | [_], [_, _], _, _ => rfl
theorem u33 (q : Cq K mg base) : ∃ fd, FunD K d28.name d28.qual d28.params d28.body d28.scope [] [] (He.fAd K d28.at_) fd := q.hs.def_ 28 (d := d28) (by kernel_rfl)
theorem m33 (q : Cq K mg base) : MkAt Pr wo K mg base tT (lk K tcn (gaF K)) 3 35 f33 := by
  obtain ⟨fd, F⟩ := u33 q
  have hb : Binds K fd ["self", "one", "other"] [] := FunD.bindsN F fun _ _ _ _ _ _ us hl => match us, hl with | [_, _, _], _ => rfl
  have hc : He.fAd K d28.at_ = He.ma K (caOf tT.cn K 35) "__init__" := by show He.ma K (He.ga K "CutGame") "__init__" = He.ma K (He.ga K (tcn.getD 35 "")) "__init__"; rw [show tcn.getD 35 "" = ("CutGame" : PySem.Str) from by kernel_rfl]
  rw [hc] at F
  refine mk_of (c := c33) (gk1 q) (by kernel_rfl) (np := 2) rfl F s33 k33 hb fun ks pm hm => ?_
  obtain ⟨e1, e2⟩ := kws_of (c := 35) (ks0 := ["other", "one"]) (pm0 := [1, 0]) (by decide +kernel) hm
  subst e1 e2
  exact kb_of F fun _ _ _ _ _ _ us ws h1 h2 => match us, ws, h1, h2 with | [_], [_, _], _, _ => rfl
theorem u34 (q : Cq K mg base) : ∃ fd, FunD K d29.name d29.qual d29.params d29.body d29.scope [] [] (He.fAd K d29.at_) fd := q.hs.def_ 29 (d := d29) (by kernel_rfl)
theorem m34 (q : Cq K mg base) : MkAt Pr wo K mg base tT (lk K tcn (gaF K)) 3 37 f34 := by
  obtain ⟨fd, F⟩ := u34 q
  have hb : Binds K fd ["self", "lot", "one", "other"] [] := FunD.bindsN F fun _ _ _ _ _ _ us hl => match us, hl with | [_, _, _, _], _ => rfl
  have hc : He.fAd K d29.at_ = He.ma K (caOf tT.cn K 37) "__init__" := by show He.ma K (He.ga K "TwoSplit") "__init__" = He.ma K (He.ga K (tcn.getD 37 "")) "__init__"; rw [show tcn.getD 37 "" = ("TwoSplit" : PySem.Str) from by kernel_rfl]
  rw [hc] at F
  refine mk_of (c := c34) (gk1 q) (by kernel_rfl) (np := 3) rfl F s34 k34 hb fun ks pm hm => ?_
  obtain ⟨e1, e2⟩ := kws_of (c := 37) (ks0 := ["other", "one", "lot"]) (pm0 := [2, 1, 0]) (by decide +kernel) hm
  subst e1 e2
  exact kb_of F fun _ _ _ _ _ _ us ws h1 h2 => match us, ws, h1, h2 with | [_], [_, _, _], _, _ => rfl
theorem u35 (q : Cq K mg base) : ∃ fd, FunD K d30.name d30.qual d30.params d30.body d30.scope [] [] (He.fAd K d30.at_) fd := q.hs.def_ 30 (d := d30) (by kernel_rfl)
theorem m35 (q : Cq K mg base) : MkAt Pr wo K mg base tT (lk K tcn (gaF K)) 3 39 f35 := by
  obtain ⟨fd, F⟩ := u35 q
  have hb : Binds K fd ["self", "places", "ties"] [] := FunD.bindsN F fun _ _ _ _ _ _ us hl => match us, hl with | [_, _, _], _ => rfl
  have hc : He.fAd K d30.at_ = He.ma K (caOf tT.cn K 39) "__init__" := by show He.ma K (He.ga K "WebOf") "__init__" = He.ma K (He.ga K (tcn.getD 39 "")) "__init__"; rw [show tcn.getD 39 "" = ("WebOf" : PySem.Str) from by kernel_rfl]
  rw [hc] at F
  refine mk_of (c := c35) (gk1 q) (by kernel_rfl) (np := 2) rfl F s35 k35 hb fun ks pm hm => ?_
  obtain ⟨e1, e2⟩ := kws_of (c := 39) (ks0 := ["ties", "places"]) (pm0 := [1, 0]) (by decide +kernel) hm
  subst e1 e2
  exact kb_of F fun _ _ _ _ _ _ us ws h1 h2 => match us, ws, h1, h2 with | [_], [_, _], _, _ => rfl
theorem u36 (q : Cq K mg base) : ∃ fd, FunD K d31.name d31.qual d31.params d31.body d31.scope [] [] (He.fAd K d31.at_) fd := q.hs.def_ 31 (d := d31) (by kernel_rfl)
theorem m36 (q : Cq K mg base) : MkAt Pr wo K mg base tT (lk K tcn (gaF K)) 3 40 f36 := by
  obtain ⟨fd, F⟩ := u36 q
  have hb : Binds K fd ["self", "kind", "gone", "pressed_lot"] [] := FunD.bindsN F fun _ _ _ _ _ _ us hl => match us, hl with | [_, _, _, _], _ => rfl
  have hc : He.fAd K d31.at_ = He.ma K (caOf tT.cn K 40) "__init__" := by show He.ma K (He.ga K "NoWeb") "__init__" = He.ma K (He.ga K (tcn.getD 40 "")) "__init__"; rw [show tcn.getD 40 "" = ("NoWeb" : PySem.Str) from by kernel_rfl]
  rw [hc] at F
  refine mk_of (c := c36) (gk1 q) (by kernel_rfl) (np := 3) rfl F s36 k36 hb fun ks pm hm => ?_
  obtain ⟨e1, e2⟩ := kws_of (c := 40) (ks0 := ["pressed_lot", "gone", "kind"]) (pm0 := [2, 1, 0]) (by decide +kernel) hm
  subst e1 e2
  exact kb_of F fun _ _ _ _ _ _ us ws h1 h2 => match us, ws, h1, h2 with | [_], [_, _, _], _, _ => rfl
theorem u37 (q : Cq K mg base) : ∃ fd, FunD K d39.name d39.qual d39.params d39.body d39.scope [] [] (He.fAd K d39.at_) fd := q.hs.def_ 39 (d := d39) (by kernel_rfl)
theorem e37 (q : Cq K mg base) : FE Pr wo K mg base (lk K tcn (gaF K)) 3 37 "_law_value" f37 := by
  obtain ⟨fd, F⟩ := u37 q
  have hb : Binds K fd ["pen"] [] := FunD.bindsN F fun _ _ _ _ _ _ us hl => match us, hl with | [_], _ => rfl
  have hg : (lk K tcn (gaF K)).ga 37 = He.ga K "_law_value" := by show He.ga K (gall.getD 37 "") = _; rw [show gall.getD 37 "" = ("_law_value" : PySem.Str) from by kernel_rfl]
  exact fe_of (c := c37) (gk2 q) (by kernel_rfl) F s37 k37 (He.glo_ok q.KX q.hns (q.hs.fact 8 (f := .glo "_law_value") (by kernel_rfl))) hg hb
theorem st3 (q : Cq K mg base) : Stg Pr wo K mg base tT (gaF K) 3 G3 gn3 := by
  refine Stg.step (st2 q) (by kernel_rfl) (Gs := [f6, f7, f8, f9, f10, f11, f12, f13, f14, f15, f16, f17, f18, f19, f20, f21, f22, f23, f24, f25, f26, f27, f28, f29, f30, f31, f32, f33, f34, f35, f36, f37]) (gs := ["", "", "", "", "", "", "", "", "", "", "", "", "", "", "", "", "", "", "", "", "", "", "", "", "", "", "", "", "", "", "", "_law_value"]) (fun i f x h1 h2 h3 => ?_) (fun c i f h1 h2 => ?_)
  · match i, h1, h2 with
    | 0, h1, h2 => exact absurd (Option.some.inj h2).symm h3
    | 1, h1, h2 => exact absurd (Option.some.inj h2).symm h3
    | 2, h1, h2 => exact absurd (Option.some.inj h2).symm h3
    | 3, h1, h2 => exact absurd (Option.some.inj h2).symm h3
    | 4, h1, h2 => exact absurd (Option.some.inj h2).symm h3
    | 5, h1, h2 => exact absurd (Option.some.inj h2).symm h3
    | 6, h1, h2 => exact absurd (Option.some.inj h2).symm h3
    | 7, h1, h2 => exact absurd (Option.some.inj h2).symm h3
    | 8, h1, h2 => exact absurd (Option.some.inj h2).symm h3
    | 9, h1, h2 => exact absurd (Option.some.inj h2).symm h3
    | 10, h1, h2 => exact absurd (Option.some.inj h2).symm h3
    | 11, h1, h2 => exact absurd (Option.some.inj h2).symm h3
    | 12, h1, h2 => exact absurd (Option.some.inj h2).symm h3
    | 13, h1, h2 => exact absurd (Option.some.inj h2).symm h3
    | 14, h1, h2 => exact absurd (Option.some.inj h2).symm h3
    | 15, h1, h2 => exact absurd (Option.some.inj h2).symm h3
    | 16, h1, h2 => exact absurd (Option.some.inj h2).symm h3
    | 17, h1, h2 => exact absurd (Option.some.inj h2).symm h3
    | 18, h1, h2 => exact absurd (Option.some.inj h2).symm h3
    | 19, h1, h2 => exact absurd (Option.some.inj h2).symm h3
    | 20, h1, h2 => exact absurd (Option.some.inj h2).symm h3
    | 21, h1, h2 => exact absurd (Option.some.inj h2).symm h3
    | 22, h1, h2 => exact absurd (Option.some.inj h2).symm h3
    | 23, h1, h2 => exact absurd (Option.some.inj h2).symm h3
    | 24, h1, h2 => exact absurd (Option.some.inj h2).symm h3
    | 25, h1, h2 => exact absurd (Option.some.inj h2).symm h3
    | 26, h1, h2 => exact absurd (Option.some.inj h2).symm h3
    | 27, h1, h2 => exact absurd (Option.some.inj h2).symm h3
    | 28, h1, h2 => exact absurd (Option.some.inj h2).symm h3
    | 29, h1, h2 => exact absurd (Option.some.inj h2).symm h3
    | 30, h1, h2 => exact absurd (Option.some.inj h2).symm h3
    | 31, h1, h2 => exact (Option.some.inj h1) ▸ (Option.some.inj h2) ▸ e37 q
    | n + 32, h1, h2 => exact absurd h1 (by simp)
  · match i, h1, h2 with
    | 0, h1, h2 =>
      have e1 := mkf_of (T := tT) (g := 6) (c0 := 1) (by decide +kernel) h1
      have e2 := Option.some.inj h2
      subst e1; subst e2
      exact m6 q
    | 1, h1, h2 =>
      have e1 := mkf_of (T := tT) (g := 7) (c0 := 2) (by decide +kernel) h1
      have e2 := Option.some.inj h2
      subst e1; subst e2
      exact m7 q
    | 2, h1, h2 =>
      have e1 := mkf_of (T := tT) (g := 8) (c0 := 3) (by decide +kernel) h1
      have e2 := Option.some.inj h2
      subst e1; subst e2
      exact m8 q
    | 3, h1, h2 =>
      have e1 := mkf_of (T := tT) (g := 9) (c0 := 4) (by decide +kernel) h1
      have e2 := Option.some.inj h2
      subst e1; subst e2
      exact m9 q
    | 4, h1, h2 =>
      have e1 := mkf_of (T := tT) (g := 10) (c0 := 5) (by decide +kernel) h1
      have e2 := Option.some.inj h2
      subst e1; subst e2
      exact m10 q
    | 5, h1, h2 =>
      have e1 := mkf_of (T := tT) (g := 11) (c0 := 6) (by decide +kernel) h1
      have e2 := Option.some.inj h2
      subst e1; subst e2
      exact m11 q
    | 6, h1, h2 =>
      have e1 := mkf_of (T := tT) (g := 12) (c0 := 7) (by decide +kernel) h1
      have e2 := Option.some.inj h2
      subst e1; subst e2
      exact m12 q
    | 7, h1, h2 =>
      have e1 := mkf_of (T := tT) (g := 13) (c0 := 8) (by decide +kernel) h1
      have e2 := Option.some.inj h2
      subst e1; subst e2
      exact m13 q
    | 8, h1, h2 =>
      have e1 := mkf_of (T := tT) (g := 14) (c0 := 9) (by decide +kernel) h1
      have e2 := Option.some.inj h2
      subst e1; subst e2
      exact m14 q
    | 9, h1, h2 =>
      have e1 := mkf_of (T := tT) (g := 15) (c0 := 10) (by decide +kernel) h1
      have e2 := Option.some.inj h2
      subst e1; subst e2
      exact m15 q
    | 10, h1, h2 =>
      have e1 := mkf_of (T := tT) (g := 16) (c0 := 11) (by decide +kernel) h1
      have e2 := Option.some.inj h2
      subst e1; subst e2
      exact m16 q
    | 11, h1, h2 =>
      have e1 := mkf_of (T := tT) (g := 17) (c0 := 12) (by decide +kernel) h1
      have e2 := Option.some.inj h2
      subst e1; subst e2
      exact m17 q
    | 12, h1, h2 =>
      have e1 := mkf_of (T := tT) (g := 18) (c0 := 13) (by decide +kernel) h1
      have e2 := Option.some.inj h2
      subst e1; subst e2
      exact m18 q
    | 13, h1, h2 =>
      have e1 := mkf_of (T := tT) (g := 19) (c0 := 15) (by decide +kernel) h1
      have e2 := Option.some.inj h2
      subst e1; subst e2
      exact m19 q
    | 14, h1, h2 =>
      have e1 := mkf_of (T := tT) (g := 20) (c0 := 17) (by decide +kernel) h1
      have e2 := Option.some.inj h2
      subst e1; subst e2
      exact m20 q
    | 15, h1, h2 =>
      have e1 := mkf_of (T := tT) (g := 21) (c0 := 19) (by decide +kernel) h1
      have e2 := Option.some.inj h2
      subst e1; subst e2
      exact m21 q
    | 16, h1, h2 =>
      have e1 := mkf_of (T := tT) (g := 22) (c0 := 20) (by decide +kernel) h1
      have e2 := Option.some.inj h2
      subst e1; subst e2
      exact m22 q
    | 17, h1, h2 =>
      have e1 := mkf_of (T := tT) (g := 23) (c0 := 21) (by decide +kernel) h1
      have e2 := Option.some.inj h2
      subst e1; subst e2
      exact m23 q
    | 18, h1, h2 =>
      have e1 := mkf_of (T := tT) (g := 24) (c0 := 23) (by decide +kernel) h1
      have e2 := Option.some.inj h2
      subst e1; subst e2
      exact m24 q
    | 19, h1, h2 =>
      have e1 := mkf_of (T := tT) (g := 25) (c0 := 25) (by decide +kernel) h1
      have e2 := Option.some.inj h2
      subst e1; subst e2
      exact m25 q
    | 20, h1, h2 =>
      have e1 := mkf_of (T := tT) (g := 26) (c0 := 26) (by decide +kernel) h1
      have e2 := Option.some.inj h2
      subst e1; subst e2
      exact m26 q
    | 21, h1, h2 =>
      have e1 := mkf_of (T := tT) (g := 27) (c0 := 27) (by decide +kernel) h1
      have e2 := Option.some.inj h2
      subst e1; subst e2
      exact m27 q
    | 22, h1, h2 =>
      have e1 := mkf_of (T := tT) (g := 28) (c0 := 28) (by decide +kernel) h1
      have e2 := Option.some.inj h2
      subst e1; subst e2
      exact m28 q
    | 23, h1, h2 =>
      have e1 := mkf_of (T := tT) (g := 29) (c0 := 29) (by decide +kernel) h1
      have e2 := Option.some.inj h2
      subst e1; subst e2
      exact m29 q
    | 24, h1, h2 =>
      have e1 := mkf_of (T := tT) (g := 30) (c0 := 31) (by decide +kernel) h1
      have e2 := Option.some.inj h2
      subst e1; subst e2
      exact m30 q
    | 25, h1, h2 =>
      have e1 := mkf_of (T := tT) (g := 31) (c0 := 33) (by decide +kernel) h1
      have e2 := Option.some.inj h2
      subst e1; subst e2
      exact m31 q
    | 26, h1, h2 =>
      have e1 := mkf_of (T := tT) (g := 32) (c0 := 34) (by decide +kernel) h1
      have e2 := Option.some.inj h2
      subst e1; subst e2
      exact m32 q
    | 27, h1, h2 =>
      have e1 := mkf_of (T := tT) (g := 33) (c0 := 35) (by decide +kernel) h1
      have e2 := Option.some.inj h2
      subst e1; subst e2
      exact m33 q
    | 28, h1, h2 =>
      have e1 := mkf_of (T := tT) (g := 34) (c0 := 37) (by decide +kernel) h1
      have e2 := Option.some.inj h2
      subst e1; subst e2
      exact m34 q
    | 29, h1, h2 =>
      have e1 := mkf_of (T := tT) (g := 35) (c0 := 39) (by decide +kernel) h1
      have e2 := Option.some.inj h2
      subst e1; subst e2
      exact m35 q
    | 30, h1, h2 =>
      have e1 := mkf_of (T := tT) (g := 36) (c0 := 40) (by decide +kernel) h1
      have e2 := Option.some.inj h2
      subst e1; subst e2
      exact m36 q
    | 31, h1, h2 => exact (mkf_no (T := tT) (g := 37) (by decide +kernel) h1).elim
    | n + 32, h1, h2 => exact absurd h2 (by simp)
theorem gk3 (q : Cq K mg base) : Gk Pr wo K mg base (lk K tcn (gaF K)) 3 G3 gn3 bn tT := (st3 q).gk q.KX q.hns q.hx (bfree q)
theorem u38 (q : Cq K mg base) : ∃ fd, FunD K d35.name d35.qual d35.params d35.body d35.scope [] [] (He.fAd K d35.at_) fd := q.hs.def_ 35 (d := d35) (by kernel_rfl)
theorem e38 (q : Cq K mg base) : FE Pr wo K mg base (lk K tcn (gaF K)) 4 38 "_law_made_a" f38 := by
  obtain ⟨fd, F⟩ := u38 q
  have hb : Binds K fd ["a", "b", "c", "d"] [] := FunD.bindsN F fun _ _ _ _ _ _ us hl => match us, hl with | [_, _, _, _], _ => rfl
  have hg : (lk K tcn (gaF K)).ga 38 = He.ga K "_law_made_a" := by show He.ga K (gall.getD 38 "") = _; rw [show gall.getD 38 "" = ("_law_made_a" : PySem.Str) from by kernel_rfl]
  exact fe_of (c := c38) (gk3 q) (by kernel_rfl) F s38 k38 (He.glo_ok q.KX q.hns (q.hs.fact 4 (f := .glo "_law_made_a") (by kernel_rfl))) hg hb
theorem u39 (q : Cq K mg base) : ∃ fd, FunD K d36.name d36.qual d36.params d36.body d36.scope [] [] (He.fAd K d36.at_) fd := q.hs.def_ 36 (d := d36) (by kernel_rfl)
theorem e39 (q : Cq K mg base) : FE Pr wo K mg base (lk K tcn (gaF K)) 4 39 "_law_made_b" f39 := by
  obtain ⟨fd, F⟩ := u39 q
  have hb : Binds K fd ["a", "b", "c", "d"] [] := FunD.bindsN F fun _ _ _ _ _ _ us hl => match us, hl with | [_, _, _, _], _ => rfl
  have hg : (lk K tcn (gaF K)).ga 39 = He.ga K "_law_made_b" := by show He.ga K (gall.getD 39 "") = _; rw [show gall.getD 39 "" = ("_law_made_b" : PySem.Str) from by kernel_rfl]
  exact fe_of (c := c39) (gk3 q) (by kernel_rfl) F s39 k39 (He.glo_ok q.KX q.hns (q.hs.fact 5 (f := .glo "_law_made_b") (by kernel_rfl))) hg hb
theorem u40 (q : Cq K mg base) : ∃ fd, FunD K d37.name d37.qual d37.params d37.body d37.scope [] [] (He.fAd K d37.at_) fd := q.hs.def_ 37 (d := d37) (by kernel_rfl)
theorem e40 (q : Cq K mg base) : FE Pr wo K mg base (lk K tcn (gaF K)) 4 40 "_law_made_c" f40 := by
  obtain ⟨fd, F⟩ := u40 q
  have hb : Binds K fd ["a", "b", "c", "d"] [] := FunD.bindsN F fun _ _ _ _ _ _ us hl => match us, hl with | [_, _, _, _], _ => rfl
  have hg : (lk K tcn (gaF K)).ga 40 = He.ga K "_law_made_c" := by show He.ga K (gall.getD 40 "") = _; rw [show gall.getD 40 "" = ("_law_made_c" : PySem.Str) from by kernel_rfl]
  exact fe_of (c := c40) (gk3 q) (by kernel_rfl) F s40 k40 (He.glo_ok q.KX q.hns (q.hs.fact 6 (f := .glo "_law_made_c") (by kernel_rfl))) hg hb
theorem st4 (q : Cq K mg base) : Stg Pr wo K mg base tT (gaF K) 4 G4 gn4 := by
  refine Stg.step (st3 q) (by kernel_rfl) (Gs := [f38, f39, f40]) (gs := ["_law_made_a", "_law_made_b", "_law_made_c"]) (fun i f x h1 h2 h3 => ?_) (fun c i f h1 h2 => ?_)
  · match i, h1, h2 with
    | 0, h1, h2 => exact (Option.some.inj h1) ▸ (Option.some.inj h2) ▸ e38 q
    | 1, h1, h2 => exact (Option.some.inj h1) ▸ (Option.some.inj h2) ▸ e39 q
    | 2, h1, h2 => exact (Option.some.inj h1) ▸ (Option.some.inj h2) ▸ e40 q
    | n + 3, h1, h2 => exact absurd h1 (by simp)
  · match i, h1, h2 with
    | 0, h1, h2 => exact (mkf_no (T := tT) (g := 38) (by decide +kernel) h1).elim
    | 1, h1, h2 => exact (mkf_no (T := tT) (g := 39) (by decide +kernel) h1).elim
    | 2, h1, h2 => exact (mkf_no (T := tT) (g := 40) (by decide +kernel) h1).elim
    | n + 3, h1, h2 => exact absurd h2 (by simp)
theorem gk4 (q : Cq K mg base) : Gk Pr wo K mg base (lk K tcn (gaF K)) 4 G4 gn4 bn tT := (st4 q).gk q.KX q.hns q.hx (bfree q)
end
end Lw

set_option Elab.async false
set_option linter.all false
set_option maxRecDepth 100000
set_option maxHeartbeats 0
namespace Lw
open PySem PySem.Spec PyProof.Rows L2 Ev
theorem facts {Pr : Program} {w : World} {K : PySem.W.Frag} {h : Heap} {mg : PySem.Str → Option Value} {f : Addr} (X : K.In h) (G : h.Ns mainGlobals mg) (hfa : mg ("law" : PySem.Str) = some (.ref f)) (c : He.SaysD dfa dfn K) (hx : exC tT K = true) :
    ∃ fd : FuncData, (∀ (s : Shared) (v : Value), BindsTo s fd ⟨[v], []⟩ [("script", v)]) ∧ ∀ base : Heap, K.In base → base.Ns mainGlobals mg → FnG Pr w K mg base 5 f fd ["script"] (spOf (lk K tcn (gaF K)) f41) := by
  obtain ⟨fd, F⟩ := c.def_ 41 (d := d41) (by kernel_rfl)
  have e := hfa.symm.trans (He.glo_ok X G (c.fact 10 (f := .glo "law") (by kernel_rfl)))
  cases e
  have b := FunD.bindsA (ps := ["script"]) F fun _ _ _ _ _ _ us hl => match us, hl with | [_], _ => rfl
  exact ⟨fd, fun s v => b s [v] rfl, fun base h1 h2 => fn_ok (c := c41) (gk4 ⟨h1, h2, c, hx⟩) (by kernel_rfl) F s41 k41⟩
end Lw
open PySem PySem.W PySem.Calls PyProof.Rows
theorem PySem.Challenge.cw_evenrings_k90_classes_made_by_hand_holds : PySem.Challenge.rw_evenrings_k90_classes_made_by_hand.Holds := by
  w_on; o_law
  refine HandSHeadRun.head_any (r := OpenLaw.row PySem.Challenge.rw_evenrings_k90_classes_made_by_hand) (q := view (OpenLaw.row PySem.Challenge.rw_evenrings_k90_classes_made_by_hand).prog [68]) (H := Lw.hk) (ob := Lw.ob) (M := 60000) (loose := Lw.dlo) (d := HandSHeadRun.topDef (OpenLaw.row PySem.Challenge.rw_evenrings_k90_classes_made_by_hand).prog 68) (kwd := []) Lw.ob_eq
    (by kernel_rfl) (fun s => by kernel_rfl) Lw.run (by kernel_rfl) (by kernel_rfl) (by kernel_rfl) (by rfl) (by first | assumption | decide +kernel) (by decide +kernel) ⟨rfl, rfl, rfl, rfl, rfl, by decide +kernel⟩ ?hw ?hc
  case hw => w_witness2
  case hc =>
    refine Ev.walk_g (l := PySem.Challenge.rw_evenrings_k90_classes_made_by_hand) (n := 63) (k := 5) (x := "script") (f := Lw.f41) (L := fun K => Ev.lk K Lw.tcn (Lw.gaF K)) (fun _ => rfl) rfl (by decide) (by kernel_rfl) ⟨rfl, by decide, by decide⟩ ?F ?law
    case law => exact fun ns h _ => Lw.law_ok ns h
    case F =>
      intro w mg fa h Y G hmg0
      obtain ⟨K, KX, c, hx⟩ := Y
      have hmg : mg ("law" : PySem.Str) = some (.ref fa) := by
        have e : (HandSHeadRun.topDef (OpenLaw.row PySem.Challenge.rw_evenrings_k90_classes_made_by_hand).prog 68).name = ("law" : PySem.Str) := by kernel_rfl
        rw [← e]
        exact hmg0
      obtain ⟨fd, hb, hF⟩ := Lw.facts (Pr := (PySem.Challenge.rw_evenrings_k90_classes_made_by_hand).prog) (w := w) KX G hmg c hx
      exact ⟨K, fd, KX, hb, hF⟩

